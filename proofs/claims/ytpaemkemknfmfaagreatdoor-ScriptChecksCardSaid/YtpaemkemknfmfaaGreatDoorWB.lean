import Derived.Test.YtpaemkemknfmfaaGreatDoorWA
import Derived.Test.YtpaemkemknfmfaaGreatDoorTxr
set_option linter.unusedVariables false
set_option linter.unusedSimpArgs false
namespace Go.Proofs.YtpaemkemknfmfaaGreatDoor
open Go.PK
/-! ### Bytes that are written as pairs of digits -/
def dgX : Tx := [48#8, 49#8, 50#8, 51#8, 52#8, 53#8, 54#8, 55#8, 56#8, 57#8, 97#8, 98#8, 99#8, 100#8, 101#8, 102#8]
theorem ixB_hex (c : B8) : (hexB c = true ∧ ∃ k : Nat, ixB c dgX = (k : Int) ∧ k < 16) ∨ (hexB c = false ∧ ixB c dgX = -1) := by
  have : ∀ n : Fin 256, (hexB (BitVec.ofFin n) = true ∧ (ixB (BitVec.ofFin n) dgX).toNat < 16 ∧ 0 ≤ ixB (BitVec.ofFin n) dgX) ∨ (hexB (BitVec.ofFin n) = false ∧ ixB (BitVec.ofFin n) dgX = -1) := by decide +kernel
  rcases this c.toFin with ⟨h1, h2, h3⟩ | h
  · exact .inl ⟨h1, (ixB c dgX).toNat, by
      have h3 : 0 ≤ ixB c dgX := h3
      omega, h2⟩
  · exact .inr h
theorem hx_all {s : Tx} {i : Nat} {c : B8} (hc : s[i]? = some c) : (s.take (i + 1)).all hexB = ((s.take i).all hexB && hexB c) := by
  rw [List.take_add_one, hc, List.all_append]; simp
theorem shl_u8 (a : B8) (k : Nat) : Value.int .u8 (IntKind.u8.wrap ((a.toNat : Int) * 2 ^ k)) = U8 (a <<< k) := by
  rw [U8]
  congr 1
  simp [IntKind.wrap, IntKind.bits, IntKind.signed, BitVec.toNat_shiftLeft, Nat.shiftLeft_eq]
theorem hv_u8 {k : Nat} (_ : k < 16) : Value.int .u8 (IntKind.u8.wrap (k : Int)) = U8 (BitVec.ofNat 8 k) := by
  rw [U8]
  congr 1
theorem set_one {bs : List B8} {j : Nat} (v : B8) (h : j < bs.length) : spl (bytes bs) (0 + j * 1) [U8 v] = bytes (bs.take j ++ [v] ++ bs.drop (j + 1)) := by
  rw [show 0 + j * 1 = j by omega, spl_one (by rw [List.length_map]; exact h)]
  simp [List.map_take, List.map_drop]
theorem shex_any (b : Nat) (p : Addr) (n : Nat) (ws : List Tx) (x : Wds) (hn : ws.length = n) (h1 : 1 ≤ n) (hx : x.1 ≤ n) (hb : n ≤ 1000000) (hw : WLen ws) :
    Spc Tryz.prog 22 #[.pointer (some ⟨b, 0, none⟩)] [wsI p n ws] [wdI b p n x] (fun v I' H' => (∃ q m c, v = .slice q m c) ∧ I' = [] ∧ H' = [wdI b p n (stP ws hxOk x)]) := by
  have hl := hw.nx x
  have hst := @tl_st ws hxOk x hxOk_nil
  refine Spc.enter Tryz.func22 rfl rfl rfl (fun w0 hw0 => ?_)
  refine CW.seq (CW.rg (RL.p rfl (RL.nil (NQ.seq (CW.seq (CW.region (ef := [1]) (bk := [1]) (RL.p rfl (RL.callq (wnext_any b p n ws x hn h1 hx hb) Tryz.call18 rfl rfl rfl rfl rfl (.inr rfl) ?_))))))))
  rintro _ _ _ ⟨rfl, rfl, rfl⟩
  rw [show wdI b p n (tlW ws x) = cel b [wsl p n (tlW ws x).1, .bool (tlW ws x).2] 56 from rfl]
  generalize hs : nxW ws x = s at hl hst ⊢
  have hrm : (s.length : Int).tmod 2 = ((s.length % 2 : Nat) : Int) := by rw [Int.tmod_eq_emod_of_nonneg (by omega)]; omega
  have fin : ∀ g : Bool, g = ((tlW ws x).2 && hxOk s) → ([cel b [wsl p n (tlW ws x).1, .bool g] 56] : List It) = [wdI b p n (stP ws hxOk x)] := fun g h => by rw [h, hst]; rfl
  generalize (tlW ws x).2 = g at hst fin ⊢
  generalize (tlW ws x).1 = k at hst fin ⊢
  refine RL.p rfl (RL.nil (NQ.seq (CW.seq (CW.seq (CW.rg (RL.p rfl (RL.lenTxt Tryz.runUnderlying9 rfl rfl rfl rfl (RL.p rfl (RL.p rfl ?_)))))))))
  apply RL.orB (d := 12) (dp := 16) (l' := (Sq.of [8, 9, 10, 11, 12, 13])) rfl (sK [0, 2, 3] rfl)
  ·
    intro hb4 K4
    refine RL.p rfl (RL.lenTxt Tryz.runUnderlying9 rfl rfl rfl rfl (RL.p rfl (RL.p rfl ?_)))
    exact K4 _ (.cons rfl (sK [0, 2, 3] rfl))
  ·
    intro hb4 K4
    refine RL.p rfl (RL.p rfl (RL.p rfl (RL.p rfl ?_)))
    exact K4 _ (.cons rfl (sK [0, 2, 3] rfl))
  refine RL.p rfl ?_
  apply RL.orB (d := 17) (dp := 22) (l' := (Sq.of [])) rfl (sK [0, 2, 3] rfl)
  ·
    intro hb9 K9
    refine RL.p rfl (RL.lenTxt Tryz.runUnderlying9 rfl rfl rfl rfl (RL.rem rfl rfl rfl rfl rfl (by decide) ?_))
    refine RL.p rfl (RL.p rfl ?_)
    exact K9 _ (.cons rfl (sK [0, 2, 3] rfl))
  ·
    intro hb9 K9
    refine RL.p rfl (RL.p rfl (RL.p rfl (RL.p rfl (RL.p rfl ?_))))
    exact K9 _ (.cons rfl (sK [0, 2, 3] rfl))
  refine RL.nil (NQ.seq ?_)
  refine CW.cond rfl (fun h => ?_) (fun h => ?_)
  ·
    refine CW.seq (CW.region (ef := [3]) (bk := [3]) (RL.p rfl (RL.p rfl (RL.fieldAddr fa_56_1 rfl rfl rfl rfl (RL.store (vs := [_]) Tryz.sizeOf4 rfl rfl rfl rfl rfl rfl rfl rfl rfl (by repeat (first | exact Upd.here | apply Upd.there)) ?_)))))
    refine RL.nil (NQ.seq (CW.seq (CW.rg (RL.p rfl (RL.nil (NQ.seq (CW.ret (RQ.seq ?_))))))))
    have hno : hxOk s = false := by
      cases hh : hxOk s with
      | false => rfl
      | true =>
        rw [hrm] at h
        rw [hxOk, Bool.and_eq_true, decide_eq_true_eq] at hh
        simp only [Bool.or_eq_true, decide_eq_true_eq, beq_iff_eq] at h
        omega
    exact RQ.post (res1 rfl rfl) (.keep .nil) ⟨⟨none, 0, 0, rfl⟩, rfl, fin _ (by rw [hno, Bool.and_false])⟩
  · have h' : 0 < s.length ∧ s.length ≤ 800 ∧ s.length % 2 = 0 := by rw [hrm] at h; simp only [Bool.or_eq_false_iff, decide_eq_false_iff_not, beq_eq_false_iff_ne, ne_eq] at h; omega
    obtain ⟨h0, h8, h2⟩ := h'
    have hdv : ∀ i : Nat, i ≤ 800 → IntKind.i64.wrap ((i : Int).tdiv 2) = ((i / 2 : Nat) : Int) := fun i hi => by
      rw [Int.tdiv_eq_ediv_of_nonneg (by omega)]
      simp [IntKind.wrap, IntKind.bits, IntKind.signed]; omega
    refine CW.skip (NQ.seq (CW.seq (CW.region (ef := [3]) (bk := []) (RL.p rfl (RL.lenTxt Tryz.runUnderlying9 rfl rfl rfl rfl (RL.quo rfl rfl rfl rfl rfl (by decide) ?_))))))
    refine RL.makeSlice (len := s.length / 2) (zs := [U8 0#8]) Tryz.runUnderlying43 Tryz.sizeOf5 (ii := Tryz.t5) (by kernel_rfl) Tryz.zeroValue5 rfl rfl (by decide) (by omega) (by show s.length / 2 * 1 ≤ 1000000; omega) (by omega) rfl rfl rfl rfl rfl (hdv _ h8) rfl (hdv _ h8) ?_
    intro b2
    rw [reps_one]
    refine RL.p rfl (RL.nil (NQ.seq (CW.ok [0, 3, 4] rfl (CW.seq (CW.seq (CW.rg (RL.p rfl (RL.lenTxt Tryz.runUnderlying9 rfl rfl rfl rfl (RL.p rfl (RL.nil (NQ.seq (CW.block ?_))))))))))))
    refine CW.loop (γ := Nat × List B8) (fun q => q.1 ≤ s.length ∧ q.2.length = s.length / 2 ∧ (s.take q.1).all hexB = true) (fun q => [(0, .pointer (some ⟨b, 0, none⟩)), (3, strV s), (4, .slice (some ⟨b2, 0, none⟩) (s.length / 2) (s.length / 2)), (31, .int .i64 (s.length : Int)), (32, .int .i64 (q.1 : Int))]) (fun _ => [wsI p n ws])
      (fun q => [cel b2 (bytes q.2) 5, cel b [wsl p n k, .bool g] 56]) (fun q => s.length - q.1) (0, List.replicate (s.length / 2) 0#8) ⟨by omega, by simp, rfl⟩
      (.cons rfl (.cons rfl (.cons rfl (.cons rfl (.cons rfl .nil))))) (fun w h => by
        rw [show bytes (List.replicate (s.length / 2) 0#8) = List.replicate (s.length / 2) (U8 0#8) by simp]
        exact h.rea (fun _ h => h) (by repeat (first | exact Rea.nil | (apply Rea.cons; (solve | (repeat (first | exact Del.here | apply Del.there))))))) ?_
    rintro ⟨i, bs⟩ ⟨hi, hbl, hall⟩
    dsimp only at hi hbl hall ⊢
    refine CW.seq (CW.rg (RL.p rfl (RL.nil (NQ.seq (CW.seq ?_)))))
    refine CW.cond rfl (fun hlt => ?_) (fun hlt => ?_)
    ·
      have hlt' : i < s.length := by simp at hlt; omega
      have hc : s[i]? = some (s[i]'hlt') := List.getElem?_eq_getElem hlt'
      generalize s[i]'hlt' = c at hc
      have hj : i / 2 < bs.length := by omega
      have hix := ix_any dgX c
      rcases ixB_hex c with ⟨hcb, q, hq, hq16⟩ | ⟨hcb, hq⟩
      · rw [hq] at hix
        have hky : (bytes bs)[0 + i / 2 * 1]? = some (U8 bs[i / 2]) := by
          show (List.map U8 bs)[_]? = _
          rw [show 0 + i / 2 * 1 = i / 2 by omega, List.getElem?_map, List.getElem?_eq_getElem hj]; rfl
        generalize bs[i / 2] = a at hky
        refine CW.skip (NQ.seq (CW.seq (CW.block (CW.seq (CW.rg (RL.p rfl (RL.p rfl (RL.nil (NQ.seq (CW.seq (CW.rg (RL.p rfl (RL.p rfl ?_)))))))))))))
        refine RL.idxTxt (j := i) Tryz.runUnderlying9 rfl rfl rfl rfl rfl rfl hc (RL.callvq (hix) Tryz.call36 rfl rfl rfl rfl ?_)
        refine RL.p rfl (RL.nil (NQ.seq (CW.ok [0, 3, 4, 5, 6, 31, 32] rfl (CW.seq (CW.seq (CW.rg (RL.p rfl (RL.p rfl (RL.nil (NQ.seq (CW.condF rfl ((by simp)) ?_)))))))))))
        refine CW.skip (NQ.seq (CW.region (ef := [13]) (bk := [13]) (RL.p rfl (RL.p rfl (RL.quo rfl rfl rfl rfl rfl (by decide) ?_)))))
        refine RL.p rfl (RL.p rfl (RL.quo rfl rfl rfl rfl rfl (by decide) ?_))
        refine RL.idxAt (j := i / 2) Tryz.runUnderlying43 Tryz.sizeOf5 rfl rfl rfl rfl rfl (hdv i (by omega)) (by omega) ?_
        refine RL.load Tryz.isAgg5 rfl rfl rfl rfl (Rd.get (by repeat (first | exact List.Mem.head _ | apply List.Mem.tail)) hky) ?_
        refine RL.shl 4 rfl rfl rfl rfl rfl rfl (by decide) ?_
        refine RL.cast (d := 52) (v' := U8 (a <<< 4)) rfl (shl_u8 a 4) ?_
        refine RL.p rfl (RL.conv Tryz.runUnderlying3 Tryz.runUnderlying5 rfl rfl rfl rfl (RL.cast (d := 54) (v' := U8 (BitVec.ofNat 8 q)) rfl (hv_u8 hq16) ?_))
        refine RL.bv8 or8 rfl rfl rfl rfl rfl (RL.idxAt (j := i / 2) Tryz.runUnderlying43 Tryz.sizeOf5 rfl rfl rfl rfl rfl (hdv i (by omega)) (by omega) ?_)
        refine RL.storeX (vs := [_]) (set_one _ hj) Tryz.sizeOf5 rfl rfl rfl rfl rfl rfl rfl rfl (by repeat (first | exact Upd.here | apply Upd.there)) (by rw [List.length_map, hbl]; show 0 + i / 2 * 1 + 1 ≤ _; omega) ?_
        refine RL.nil (NQ.block (NQ.seq (CW.ok [0, 3, 4, 31, 32] rfl (CW.rg (RL.bx rfl (wrapV_i64 (by omega) (by omega)) ?_)))))
        refine RL.p rfl (RL.nil ?_)
        exact NQ.round (g := (i, bs)) (i + 1, bs.take (i / 2) ++ [_] ++ bs.drop (i / 2 + 1)) ⟨hlt', by simp; omega, by rw [hx_all hc, hall, hcb]; rfl⟩ (by show s.length - (i + 1) < s.length - i; omega) (.cons rfl (.cons rfl (.cons rfl (.cons rfl (.cons rfl .nil))))) (fun w h => h.rea (fun _ h => h) (by repeat (first | exact Rea.nil | (apply Rea.cons; (solve | (repeat (first | exact Del.here | apply Del.there)))))))
      · rw [hq] at hix
        have hno : hxOk s = false := by
          have : s.all hexB = false := by
            rw [List.all_eq_false]
            exact ⟨c, List.mem_of_getElem? hc, by rw [hcb]; simp⟩
          rw [hxOk, this, Bool.and_false]
        refine CW.skip (NQ.seq (CW.seq (CW.block (CW.seq (CW.rg (RL.p rfl (RL.p rfl (RL.nil (NQ.seq (CW.seq (CW.rg (RL.p rfl (RL.p rfl ?_)))))))))))))
        refine RL.idxTxt (j := i) Tryz.runUnderlying9 rfl rfl rfl rfl rfl rfl hc (RL.callvq (hix) Tryz.call36 rfl rfl rfl rfl ?_)
        refine RL.p rfl (RL.nil (NQ.seq (CW.ok [0, 3, 4, 5, 6, 31, 32] rfl (CW.seq (CW.seq (CW.rg (RL.p rfl (RL.p rfl (RL.nil (NQ.seq (CW.condT rfl ((by rfl)) ?_)))))))))))
        refine CW.seq (CW.region (ef := [3]) (bk := [3]) (RL.p rfl (RL.p rfl (RL.fieldAddr fa_56_1 rfl rfl rfl rfl (RL.store (vs := [_]) Tryz.sizeOf4 rfl rfl rfl rfl rfl rfl rfl rfl rfl (by repeat (first | exact Upd.here | apply Upd.there)) ?_)))))
        refine RL.nil (NQ.seq (CW.seq (CW.rg (RL.p rfl (RL.nil (NQ.seq (CW.ret (RQ.seq (RQ.block (RQ.seq (RQ.seq (RQ.block (RQ.seq ?_)))))))))))))
        exact RQ.post (res1 rfl rfl) (.drop (.keep .nil)) ⟨⟨none, 0, 0, rfl⟩, rfl, fin _ (by rw [hno, Bool.and_false])⟩
    · have hin : i = s.length := by simp at hlt; omega
      subst hin
      rw [List.take_length] at hall
      refine CW.exit (XQ.seq (XQ.seq (XQ.hit (NQ.seq (CW.seq (CW.rg (RL.p rfl (RL.p rfl (RL.nil (NQ.seq (CW.ok [2] rfl (CW.ret ?_))))))))))))
      have hok : hxOk s = true := by
        rw [hxOk, hall, Bool.and_true, decide_eq_true_eq]; exact ⟨h0, h8, h2⟩
      exact RQ.post (res1 rfl rfl) (.drop (.keep .nil)) ⟨⟨_, _, _, rfl⟩, rfl, fin _ (by rw [hok, Bool.and_true])⟩
end Go.Proofs.YtpaemkemknfmfaaGreatDoor

namespace Go.Proofs.YtpaemkemknfmfaaGreatDoor
open Go.PK
/-! ### A reading, by its name -/
/-- What a reading gives: some cells; and what is left. -/
def RdgR (b : Nat) (p : Addr) (n : Nat) (z : Wds) : Value → List It → List It → Prop := fun v I' H' => (∃ cs : List Value, v = .agg cs.toArray ∧ cs.length = 57 ∧ ones cs = true) ∧ I' = [] ∧ H' = [wdI b p n z]
theorem sreading_any (b : Nat) (p : Addr) (n : Nat) (ws : List Tx) (x : Wds) (hn : ws.length = n) (h1 : 1 ≤ n) (hx : x.1 ≤ n) (hb : n ≤ 1000000) (hw : WLen ws) :
    Spc Tryz.prog 20 #[.pointer (some ⟨b, 0, none⟩)] [wsI p n ws, gvI] [wdI b p n x] (RdgR b p n (rdX ws x)) := by
  have ht : (tlW ws x).1 ≤ n := by rw [← hn]; exact Nat.min_le_right _ _
  have hst : ∀ (q : Pd) (z : Wds), (stP ws q z).1 ≤ n := fun q z => by rw [← hn]; exact Nat.min_le_right _ _
  have hsp : ∀ (ps : List Pd) (z : Wds), z.1 ≤ n → (stPs ws ps z).1 ≤ n := fun ps z h => by rw [← hn] at h ⊢; exact stPs_le ws ps z h
  have hrd : rdX ws x = match rdP (nxW ws x) with
    | some ps => stPs ws ps (tlW ws x)
    | none => ((tlW ws x).1, false) := rfl
  refine Spc.enter Tryz.func20 rfl rfl rfl (fun w0 hw0 => ?_)
  refine CW.seq (CW.region (ef := [0]) (bk := []) (RL.alloc Tryz.zeroValue42 rfl rfl rfl rfl rfl ?_))
  intro b1
  refine RL.nil (NQ.seq (CW.seq (CW.seq (CW.region (ef := [1]) (bk := [1]) (RL.p rfl (RL.callq (wnext_any b p n ws x hn h1 hx hb) Tryz.call18 rfl rfl rfl rfl rfl (.inr rfl) ?_))))))
  rintro _ _ _ ⟨rfl, rfl, rfl⟩
  generalize nxW ws x = s at hrd ⊢
  generalize tlW ws x = y at ht hrd ⊢
  refine RL.nil (NQ.seq (CW.block (CW.seq (CW.rg (RL.cmp rfl rfl rfl rfl rfl (fun w => eql_txt s wImu w) ?_)))))
  refine RL.p rfl (RL.nil (NQ.seq ?_))
  refine CW.cond rfl (fun g0 => ?_) (fun g0 => ?_)
  · have e : s = wImu := by simpa using g0
    have hr : rdX ws x = stPs ws [iOk, iOk, iOk, iOk, iOk, iOk] y := by rw [hrd, e]; rfl
    clear hrd
    refine CW.seq (CW.region (ef := [1, 2]) (bk := [2]) (RL.buildS [.int .i64 1, .int .i32 0, .int .i32 0, .int .i32 0, .int .i32 0, .int .i32 0, .int .i32 0, .int .i64 0, .int .u32 0, .int .i32 0, .int .u32 0, .int .u32 0, .int .u8 0, .int .i64 0, .int .i64 0, .int .i64 0, .int .u8 0, .int .u8 0, .int .u8 0, .int .u8 0, .int .u8 0, .int .u8 0, .int .u8 0, .int .u8 0, .int .u8 0, .int .u8 0, .int .u8 0, .int .u8 0, .int .u8 0, .int .u8 0, .int .u8 0, .int .u8 0, .int .u8 0, .int .u8 0, .int .u8 0, .int .u8 0, .int .u8 0, .int .u8 0, .int .u8 0, .int .u8 0, .int .u8 0, .int .u8 0, .int .u8 0, .int .u8 0, .int .u8 0, .int .u8 0, .int .u8 0, .int .u8 0, .int .u64 0, .int .u8 0, .int .u32 0, .int .i64 0, .int .u32 0, .int .u8 0, .int .u8 0, .int .u16 0, .int .u64 0] Tryz.zeroValue42 pl_42 rfl rfl rfl rfl rfl (RL.alloc Tryz.zeroValue42 rfl rfl rfl rfl rfl ?_)))
    intro b2
    refine RL.storeWq Tryz.sizeOf42 rfl rfl rfl rfl rfl rfl rfl ?_
    refine RL.nil (NQ.seq (CW.seq (CW.region (ef := [1, 3]) (bk := [1, 3]) (RL.p rfl (RL.callq (sthree_any b p n ws y hn h1 ht hb hw) Tryz.call33 rfl rfl rfl rfl rfl (.inr rfl) ?_)))))
    rintro _ _ _ ⟨rfl, rfl, rfl⟩
    refine RL.fieldAddr fa_42_1 rfl rfl rfl rfl (RL.store (vs := [_, _, _]) Tryz.sizeOf32 rfl rfl rfl rfl rfl rfl rfl rfl rfl (by repeat (first | exact Upd.here | apply Upd.there)) ?_)
    refine RL.nil (NQ.seq (CW.ok [0, 2, 3] rfl (CW.seq (CW.region (ef := [1, 3]) (bk := [1, 3]) (RL.p rfl (RL.callq (sthree_any b p n ws (stPs ws [iOk, iOk, iOk] y) hn h1 (hsp _ _ ht) hb hw) Tryz.call33 rfl rfl rfl rfl rfl (.inr rfl) ?_))))))
    rintro _ _ _ ⟨rfl, rfl, rfl⟩
    refine RL.fieldAddr fa_42_2 rfl rfl rfl rfl (RL.store (vs := [_, _, _]) Tryz.sizeOf32 rfl rfl rfl rfl rfl rfl rfl rfl rfl (by repeat (first | exact Upd.here | apply Upd.there)) ?_)
    refine RL.nil (NQ.seq (CW.seq (CW.region (ef := [1]) (bk := [1]) (RL.loadW Tryz.isAgg42 Tryz.sizeOf42 rfl rfl rfl rfl (by repeat (first | exact List.Mem.head _ | apply List.Mem.tail)) (by first | rfl | assumption | (simp only [List.length_map]; assumption) | (simp only [List.length_map, List.length_replicate]; done) | (simp; done)) ?_))))
    refine RL.storeWq Tryz.sizeOf42 rfl rfl rfl rfl rfl rfl rfl ?_
    refine RL.nil (NQ.seq (CW.ret (RQ.block (RQ.seq ?_))))
    exact RQ.post (resW rfl rfl Tryz.isAgg42 Tryz.sizeOf42 (by repeat (first | exact List.Mem.head _ | apply List.Mem.tail)) rfl) (.keep (Split.none _)) ⟨⟨_, rfl, rfl, rfl⟩, rfl, by rw [hr]; rfl⟩
  · have n0 : s ≠ wImu := by simpa using g0
    refine CW.seq (CW.rg (RL.cmp rfl rfl rfl rfl rfl (fun w => eql_txt s wBaro w) ?_))
    refine RL.p rfl (RL.nil (NQ.seq ?_))
    refine CW.cond rfl (fun g1 => ?_) (fun g1 => ?_)
    · have e : s = wBaro := by simpa using g1
      have hr : rdX ws x = stPs ws [sOk] y := by rw [hrd, e]; rfl
      clear hrd
      refine CW.seq (CW.region (ef := [1, 3]) (bk := [1, 3]) (RL.p rfl (RL.callq (sfix_any b p n ws y hn h1 ht hb hw) Tryz.call34 rfl rfl rfl rfl rfl (.inr rfl) ?_)))
      rintro _ _ _ ⟨rfl, rfl, rfl⟩
      refine RL.buildS [.int .i64 2, .int .i32 0, .int .i32 0, .int .i32 0, .int .i32 0, .int .i32 0, .int .i32 0, _, .int .u32 0, .int .i32 0, .int .u32 0, .int .u32 0, .int .u8 0, .int .i64 0, .int .i64 0, .int .i64 0, .int .u8 0, .int .u8 0, .int .u8 0, .int .u8 0, .int .u8 0, .int .u8 0, .int .u8 0, .int .u8 0, .int .u8 0, .int .u8 0, .int .u8 0, .int .u8 0, .int .u8 0, .int .u8 0, .int .u8 0, .int .u8 0, .int .u8 0, .int .u8 0, .int .u8 0, .int .u8 0, .int .u8 0, .int .u8 0, .int .u8 0, .int .u8 0, .int .u8 0, .int .u8 0, .int .u8 0, .int .u8 0, .int .u8 0, .int .u8 0, .int .u8 0, .int .u8 0, .int .u64 0, .int .u8 0, .int .u32 0, .int .i64 0, .int .u32 0, .int .u8 0, .int .u8 0, .int .u16 0, .int .u64 0] Tryz.zeroValue42 pl_42 rfl rfl rfl rfl rfl (RL.storeWq Tryz.sizeOf42 rfl rfl rfl rfl rfl rfl rfl ?_)
      refine RL.nil (NQ.seq (CW.ok [0, 2] rfl (CW.ret (RQ.block (RQ.seq ?_)))))
      exact RQ.post (resW rfl rfl Tryz.isAgg42 Tryz.sizeOf42 (by repeat (first | exact List.Mem.head _ | apply List.Mem.tail)) rfl) (.keep (Split.none _)) ⟨⟨_, rfl, rfl, rfl⟩, rfl, by rw [hr]; rfl⟩
    · have n1 : s ≠ wBaro := by simpa using g1
      refine CW.seq (CW.rg (RL.cmp rfl rfl rfl rfl rfl (fun w => eql_txt s wMag w) ?_))
      refine RL.p rfl (RL.nil (NQ.seq (CW.ok [0, 2, 6, 22] rfl ?_)))
      refine CW.cond rfl (fun g2 => ?_) (fun g2 => ?_)
      · have e : s = wMag := by simpa using g2
        have hr : rdX ws x = stPs ws [uOk 4294967295] y := by rw [hrd, e]; rfl
        clear hrd
        refine CW.seq (CW.region (ef := [1, 4]) (bk := [1, 4]) (RL.p rfl (RL.callq (snum_any b p n ws y 4294967295 hn h1 ht hb hw) Tryz.call19 rfl rfl rfl rfl rfl (.inr rfl) ?_)))
        rintro _ _ _ ⟨rfl, rfl, rfl⟩
        refine RL.conv Tryz.runUnderlying39 Tryz.runUnderlying34 rfl rfl rfl rfl (RL.buildS [.int .i64 3, .int .i32 0, .int .i32 0, .int .i32 0, .int .i32 0, .int .i32 0, .int .i32 0, .int .i64 0, _, .int .i32 0, .int .u32 0, .int .u32 0, .int .u8 0, .int .i64 0, .int .i64 0, .int .i64 0, .int .u8 0, .int .u8 0, .int .u8 0, .int .u8 0, .int .u8 0, .int .u8 0, .int .u8 0, .int .u8 0, .int .u8 0, .int .u8 0, .int .u8 0, .int .u8 0, .int .u8 0, .int .u8 0, .int .u8 0, .int .u8 0, .int .u8 0, .int .u8 0, .int .u8 0, .int .u8 0, .int .u8 0, .int .u8 0, .int .u8 0, .int .u8 0, .int .u8 0, .int .u8 0, .int .u8 0, .int .u8 0, .int .u8 0, .int .u8 0, .int .u8 0, .int .u8 0, .int .u64 0, .int .u8 0, .int .u32 0, .int .i64 0, .int .u32 0, .int .u8 0, .int .u8 0, .int .u16 0, .int .u64 0] Tryz.zeroValue42 pl_42 rfl rfl rfl rfl rfl (RL.storeWq Tryz.sizeOf42 rfl rfl rfl rfl rfl rfl rfl ?_))
        refine RL.nil (NQ.seq (CW.ok [0, 2] rfl (CW.ret (RQ.block (RQ.seq ?_)))))
        exact RQ.post (resW rfl rfl Tryz.isAgg42 Tryz.sizeOf42 (by repeat (first | exact List.Mem.head _ | apply List.Mem.tail)) rfl) (.keep (Split.none _)) ⟨⟨_, rfl, rfl, rfl⟩, rfl, by rw [hr]; rfl⟩
      · have n2 : s ≠ wMag := by simpa using g2
        refine CW.seq (CW.rg (RL.cmp rfl rfl rfl rfl rfl (fun w => eql_txt s wOdo w) ?_))
        refine RL.p rfl (RL.nil (NQ.seq ?_))
        refine CW.cond rfl (fun g3 => ?_) (fun g3 => ?_)
        · have e : s = wOdo := by simpa using g3
          have hr : rdX ws x = stPs ws [iOk, uOk 4294967295] y := by rw [hrd, e]; rfl
          clear hrd
          refine CW.seq (CW.region (ef := [1, 3, 4]) (bk := [1, 4]) (RL.p rfl (RL.callq (ssmall_any b p n ws y hn h1 ht hb hw) Tryz.call35 rfl rfl rfl rfl rfl (.inr rfl) ?_)))
          rintro _ _ _ ⟨rfl, rfl, rfl⟩
          refine RL.buildS [.int .i64 4, .int .i32 0, .int .i32 0, .int .i32 0, .int .i32 0, .int .i32 0, .int .i32 0, .int .i64 0, .int .u32 0, _, .int .u32 0, .int .u32 0, .int .u8 0, .int .i64 0, .int .i64 0, .int .i64 0, .int .u8 0, .int .u8 0, .int .u8 0, .int .u8 0, .int .u8 0, .int .u8 0, .int .u8 0, .int .u8 0, .int .u8 0, .int .u8 0, .int .u8 0, .int .u8 0, .int .u8 0, .int .u8 0, .int .u8 0, .int .u8 0, .int .u8 0, .int .u8 0, .int .u8 0, .int .u8 0, .int .u8 0, .int .u8 0, .int .u8 0, .int .u8 0, .int .u8 0, .int .u8 0, .int .u8 0, .int .u8 0, .int .u8 0, .int .u8 0, .int .u8 0, .int .u8 0, .int .u64 0, .int .u8 0, .int .u32 0, .int .i64 0, .int .u32 0, .int .u8 0, .int .u8 0, .int .u16 0, .int .u64 0] Tryz.zeroValue42 pl_42 rfl rfl rfl rfl rfl (RL.alloc Tryz.zeroValue42 rfl rfl rfl rfl rfl ?_)
          intro b2
          refine RL.storeWq Tryz.sizeOf42 rfl rfl rfl rfl rfl rfl rfl ?_
          refine RL.nil (NQ.seq (CW.ok [0, 2, 4] rfl (CW.seq (CW.region (ef := [1, 4]) (bk := [1, 4]) (RL.p rfl (RL.callq (snum_any b p n ws (stP ws iOk y) 4294967295 hn h1 (hst _ _) hb hw) Tryz.call19 rfl rfl rfl rfl rfl (.inr rfl) ?_))))))
          rintro _ _ _ ⟨rfl, rfl, rfl⟩
          refine RL.conv Tryz.runUnderlying39 Tryz.runUnderlying34 rfl rfl rfl rfl (RL.fieldAddr fa_42_6 rfl rfl rfl rfl (RL.store (vs := [_]) Tryz.sizeOf34 rfl rfl rfl rfl rfl rfl rfl rfl rfl (by repeat (first | exact Upd.here | apply Upd.there)) ?_))
          refine RL.nil (NQ.seq (CW.seq (CW.region (ef := [1]) (bk := [1]) (RL.loadW Tryz.isAgg42 Tryz.sizeOf42 rfl rfl rfl rfl (by repeat (first | exact List.Mem.head _ | apply List.Mem.tail)) (by first | rfl | assumption | (simp only [List.length_map]; assumption) | (simp only [List.length_map, List.length_replicate]; done) | (simp; done)) ?_))))
          refine RL.storeWq Tryz.sizeOf42 rfl rfl rfl rfl rfl rfl rfl ?_
          refine RL.nil (NQ.seq (CW.ok [0, 2] rfl (CW.ret (RQ.block (RQ.seq ?_)))))
          exact RQ.post (resW rfl rfl Tryz.isAgg42 Tryz.sizeOf42 (by repeat (first | exact List.Mem.head _ | apply List.Mem.tail)) rfl) (.keep (Split.none _)) ⟨⟨_, rfl, rfl, rfl⟩, rfl, by rw [hr]; rfl⟩
        · have n3 : s ≠ wOdo := by simpa using g3
          refine CW.seq (CW.rg (RL.cmp rfl rfl rfl rfl rfl (fun w => eql_txt s wBeacon w) ?_))
          refine RL.p rfl (RL.nil (NQ.seq ?_))
          refine CW.cond rfl (fun g4 => ?_) (fun g4 => ?_)
          · have e : s = wBeacon := by simpa using g4
            have hr : rdX ws x = stPs ws [uOk M63] y := by rw [hrd, e]; rfl
            clear hrd
            refine CW.seq (CW.region (ef := [1, 3]) (bk := [1, 3]) (RL.p rfl (RL.callq (snum_any b p n ws y 9223372036854775807 hn h1 ht hb hw) Tryz.call19 rfl rfl rfl rfl rfl (.inr rfl) ?_)))
            rintro _ _ _ ⟨rfl, rfl, rfl⟩
            refine RL.buildS [.int .i64 7, .int .i32 0, .int .i32 0, .int .i32 0, .int .i32 0, .int .i32 0, .int .i32 0, .int .i64 0, .int .u32 0, .int .i32 0, .int .u32 0, .int .u32 0, .int .u8 0, .int .i64 0, .int .i64 0, .int .i64 0, .int .u8 0, .int .u8 0, .int .u8 0, .int .u8 0, .int .u8 0, .int .u8 0, .int .u8 0, .int .u8 0, .int .u8 0, .int .u8 0, .int .u8 0, .int .u8 0, .int .u8 0, .int .u8 0, .int .u8 0, .int .u8 0, .int .u8 0, .int .u8 0, .int .u8 0, .int .u8 0, .int .u8 0, .int .u8 0, .int .u8 0, .int .u8 0, .int .u8 0, .int .u8 0, .int .u8 0, .int .u8 0, .int .u8 0, .int .u8 0, .int .u8 0, .int .u8 0, _, .int .u8 0, .int .u32 0, .int .i64 0, .int .u32 0, .int .u8 0, .int .u8 0, .int .u16 0, .int .u64 0] Tryz.zeroValue42 pl_42 rfl rfl rfl rfl rfl (RL.storeWq Tryz.sizeOf42 rfl rfl rfl rfl rfl rfl rfl ?_)
            refine RL.nil (NQ.seq (CW.ok [0, 2] rfl (CW.ret (RQ.block (RQ.seq ?_)))))
            exact RQ.post (resW rfl rfl Tryz.isAgg42 Tryz.sizeOf42 (by repeat (first | exact List.Mem.head _ | apply List.Mem.tail)) rfl) (.keep (Split.none _)) ⟨⟨_, rfl, rfl, rfl⟩, rfl, by rw [hr]; rfl⟩
          · have n4 : s ≠ wBeacon := by simpa using g4
            refine CW.seq (CW.rg (RL.cmp rfl rfl rfl rfl rfl (fun w => eql_txt s wMode w) ?_))
            refine RL.p rfl (RL.nil (NQ.seq (CW.ok [0, 2, 6, 43] rfl ?_)))
            refine CW.cond rfl (fun g5 => ?_) (fun g5 => ?_)
            · have e : s = wMode := by simpa using g5
              have hr : rdX ws x = stPs ws [uOk 2] y := by rw [hrd, e]; rfl
              clear hrd
              refine CW.seq (CW.region (ef := [1, 4]) (bk := [1, 4]) (RL.p rfl (RL.callq (snum_any b p n ws y 2 hn h1 ht hb hw) Tryz.call19 rfl rfl rfl rfl rfl (.inr rfl) ?_)))
              rintro _ _ _ ⟨rfl, rfl, rfl⟩
              refine RL.conv Tryz.runUnderlying39 Tryz.runUnderlying5 rfl rfl rfl rfl (RL.buildS [.int .i64 8, .int .i32 0, .int .i32 0, .int .i32 0, .int .i32 0, .int .i32 0, .int .i32 0, .int .i64 0, .int .u32 0, .int .i32 0, .int .u32 0, .int .u32 0, .int .u8 0, .int .i64 0, .int .i64 0, .int .i64 0, .int .u8 0, .int .u8 0, .int .u8 0, .int .u8 0, .int .u8 0, .int .u8 0, .int .u8 0, .int .u8 0, .int .u8 0, .int .u8 0, .int .u8 0, .int .u8 0, .int .u8 0, .int .u8 0, .int .u8 0, .int .u8 0, .int .u8 0, .int .u8 0, .int .u8 0, .int .u8 0, .int .u8 0, .int .u8 0, .int .u8 0, .int .u8 0, .int .u8 0, .int .u8 0, .int .u8 0, .int .u8 0, .int .u8 0, .int .u8 0, .int .u8 0, .int .u8 0, .int .u64 0, _, .int .u32 0, .int .i64 0, .int .u32 0, .int .u8 0, .int .u8 0, .int .u16 0, .int .u64 0] Tryz.zeroValue42 pl_42 rfl rfl rfl rfl rfl (RL.storeWq Tryz.sizeOf42 rfl rfl rfl rfl rfl rfl rfl ?_))
              refine RL.nil (NQ.seq (CW.ok [0, 2] rfl (CW.ret (RQ.block (RQ.seq ?_)))))
              exact RQ.post (resW rfl rfl Tryz.isAgg42 Tryz.sizeOf42 (by repeat (first | exact List.Mem.head _ | apply List.Mem.tail)) rfl) (.keep (Split.none _)) ⟨⟨_, rfl, rfl, rfl⟩, rfl, by rw [hr]; rfl⟩
            · have n5 : s ≠ wMode := by simpa using g5
              refine CW.seq (CW.rg (RL.cmp rfl rfl rfl rfl rfl (fun w => eql_txt s wReset w) ?_))
              refine RL.p rfl (RL.nil (NQ.seq ?_))
              refine CW.cond rfl (fun g6 => ?_) (fun g6 => ?_)
              · have e : s = wReset := by simpa using g6
                have hr : rdX ws x = stPs ws [] y := by rw [hrd, e]; rfl
                clear hrd
                refine CW.seq (CW.region (ef := [1]) (bk := [1]) (RL.buildS [.int .i64 9, .int .i32 0, .int .i32 0, .int .i32 0, .int .i32 0, .int .i32 0, .int .i32 0, .int .i64 0, .int .u32 0, .int .i32 0, .int .u32 0, .int .u32 0, .int .u8 0, .int .i64 0, .int .i64 0, .int .i64 0, .int .u8 0, .int .u8 0, .int .u8 0, .int .u8 0, .int .u8 0, .int .u8 0, .int .u8 0, .int .u8 0, .int .u8 0, .int .u8 0, .int .u8 0, .int .u8 0, .int .u8 0, .int .u8 0, .int .u8 0, .int .u8 0, .int .u8 0, .int .u8 0, .int .u8 0, .int .u8 0, .int .u8 0, .int .u8 0, .int .u8 0, .int .u8 0, .int .u8 0, .int .u8 0, .int .u8 0, .int .u8 0, .int .u8 0, .int .u8 0, .int .u8 0, .int .u8 0, .int .u64 0, .int .u8 0, .int .u32 0, .int .i64 0, .int .u32 0, .int .u8 0, .int .u8 0, .int .u16 0, .int .u64 0] Tryz.zeroValue42 pl_42 rfl rfl rfl rfl rfl (RL.storeWq Tryz.sizeOf42 rfl rfl rfl rfl rfl rfl rfl ?_)))
                refine RL.nil (NQ.seq (CW.ret (RQ.block (RQ.seq ?_))))
                exact RQ.post (resW rfl rfl Tryz.isAgg42 Tryz.sizeOf42 (by repeat (first | exact List.Mem.head _ | apply List.Mem.tail)) rfl) (.keep (Split.none _)) ⟨⟨_, rfl, rfl, rfl⟩, rfl, by rw [hr]; rfl⟩
              · have n6 : s ≠ wReset := by simpa using g6
                refine CW.seq (CW.rg (RL.cmp rfl rfl rfl rfl rfl (fun w => eql_txt s wSave w) ?_))
                refine RL.p rfl (RL.nil (NQ.seq ?_))
                refine CW.cond rfl (fun g7 => ?_) (fun g7 => ?_)
                · have e : s = wSave := by simpa using g7
                  have hr : rdX ws x = stPs ws [] y := by rw [hrd, e]; rfl
                  clear hrd
                  refine CW.seq (CW.region (ef := [1]) (bk := [1]) (RL.buildS [.int .i64 11, .int .i32 0, .int .i32 0, .int .i32 0, .int .i32 0, .int .i32 0, .int .i32 0, .int .i64 0, .int .u32 0, .int .i32 0, .int .u32 0, .int .u32 0, .int .u8 0, .int .i64 0, .int .i64 0, .int .i64 0, .int .u8 0, .int .u8 0, .int .u8 0, .int .u8 0, .int .u8 0, .int .u8 0, .int .u8 0, .int .u8 0, .int .u8 0, .int .u8 0, .int .u8 0, .int .u8 0, .int .u8 0, .int .u8 0, .int .u8 0, .int .u8 0, .int .u8 0, .int .u8 0, .int .u8 0, .int .u8 0, .int .u8 0, .int .u8 0, .int .u8 0, .int .u8 0, .int .u8 0, .int .u8 0, .int .u8 0, .int .u8 0, .int .u8 0, .int .u8 0, .int .u8 0, .int .u8 0, .int .u64 0, .int .u8 0, .int .u32 0, .int .i64 0, .int .u32 0, .int .u8 0, .int .u8 0, .int .u16 0, .int .u64 0] Tryz.zeroValue42 pl_42 rfl rfl rfl rfl rfl (RL.storeWq Tryz.sizeOf42 rfl rfl rfl rfl rfl rfl rfl ?_)))
                  refine RL.nil (NQ.seq (CW.ok [0, 2] rfl (CW.ret (RQ.block (RQ.seq ?_)))))
                  exact RQ.post (resW rfl rfl Tryz.isAgg42 Tryz.sizeOf42 (by repeat (first | exact List.Mem.head _ | apply List.Mem.tail)) rfl) (.keep (Split.none _)) ⟨⟨_, rfl, rfl, rfl⟩, rfl, by rw [hr]; rfl⟩
                · have n7 : s ≠ wSave := by simpa using g7
                  refine CW.seq (CW.rg (RL.cmp rfl rfl rfl rfl rfl (fun w => eql_txt s wQuery w) ?_))
                  refine RL.p rfl (RL.nil (NQ.seq (CW.ok [0, 2, 55] rfl ?_)))
                  refine CW.cond rfl (fun g8 => ?_) (fun g8 => ?_)
                  · have e : s = wQuery := by simpa using g8
                    have hr : rdX ws x = stPs ws [uOk 255] y := by rw [hrd, e]; rfl
                    clear hrd
                    refine CW.seq (CW.region (ef := [1, 4]) (bk := [1, 4]) (RL.p rfl (RL.callq (snum_any b p n ws y 255 hn h1 ht hb hw) Tryz.call19 rfl rfl rfl rfl rfl (.inr rfl) ?_)))
                    rintro _ _ _ ⟨rfl, rfl, rfl⟩
                    refine RL.conv Tryz.runUnderlying39 Tryz.runUnderlying5 rfl rfl rfl rfl (RL.buildS [.int .i64 12, .int .i32 0, .int .i32 0, .int .i32 0, .int .i32 0, .int .i32 0, .int .i32 0, .int .i64 0, .int .u32 0, .int .i32 0, .int .u32 0, .int .u32 0, .int .u8 0, .int .i64 0, .int .i64 0, .int .i64 0, .int .u8 0, .int .u8 0, .int .u8 0, .int .u8 0, .int .u8 0, .int .u8 0, .int .u8 0, .int .u8 0, .int .u8 0, .int .u8 0, .int .u8 0, .int .u8 0, .int .u8 0, .int .u8 0, .int .u8 0, .int .u8 0, .int .u8 0, .int .u8 0, .int .u8 0, .int .u8 0, .int .u8 0, .int .u8 0, .int .u8 0, .int .u8 0, .int .u8 0, .int .u8 0, .int .u8 0, .int .u8 0, .int .u8 0, .int .u8 0, .int .u8 0, .int .u8 0, .int .u64 0, .int .u8 0, .int .u32 0, .int .i64 0, .int .u32 0, _, .int .u8 0, .int .u16 0, .int .u64 0] Tryz.zeroValue42 pl_42 rfl rfl rfl rfl rfl (RL.storeWq Tryz.sizeOf42 rfl rfl rfl rfl rfl rfl rfl ?_))
                    refine RL.nil (NQ.seq (CW.ret (RQ.block (RQ.seq ?_))))
                    exact RQ.post (resW rfl rfl Tryz.isAgg42 Tryz.sizeOf42 (by repeat (first | exact List.Mem.head _ | apply List.Mem.tail)) rfl) (.keep (Split.none _)) ⟨⟨_, rfl, rfl, rfl⟩, rfl, by rw [hr]; rfl⟩
                  · have n8 : s ≠ wQuery := by simpa using g8
                    refine CW.skip (NQ.block (NQ.seq (CW.seq (CW.region (ef := [3]) (bk := [3]) (RL.p rfl (RL.p rfl (RL.fieldAddr fa_56_1 rfl rfl rfl rfl (RL.store (vs := [_]) Tryz.sizeOf4 rfl rfl rfl rfl rfl rfl rfl rfl rfl (by repeat (first | exact Upd.here | apply Upd.there)) ?_))))))))
                    refine RL.nil (NQ.seq (CW.seq (CW.region (ef := [1]) (bk := [1]) (RL.buildS _ Tryz.zeroValue42 pl_42 rfl rfl rfl rfl rfl (RL.storeWq Tryz.sizeOf42 rfl rfl rfl rfl rfl rfl rfl ?_)))))
                    refine RL.nil (NQ.seq (CW.ok [2] rfl (CW.ret ?_)))
                    have hr : rdX ws x = (y.1, false) := by
                      rw [hrd, rdP, if_neg n0, if_neg n1, if_neg n2, if_neg n3, if_neg n4, if_neg n5, if_neg n6, if_neg n7, if_neg n8]
                    exact RQ.post (resW rfl rfl Tryz.isAgg42 Tryz.sizeOf42 (by repeat (first | exact List.Mem.head _ | apply List.Mem.tail)) rfl) (.keep (Split.none _)) ⟨⟨_, rfl, rfl, rfl⟩, rfl, by rw [hr]; rfl⟩
end Go.Proofs.YtpaemkemknfmfaaGreatDoor

namespace Go.Proofs.YtpaemkemknfmfaaGreatDoor
open Go.PK
/-! ### A line -/
theorem wsl_0 (bw n : Nat) : wsl ⟨bw, 0, none⟩ n 0 = .slice (some ⟨bw, 0, none⟩) n n := by
  rw [wsl, Nat.zero_min]; rfl
/-- A command's cells: its name, and how many ticks. -/
structure Cm (ws : List Tx) (cs : List Value) : Prop where
  len : cs.length = 66
  one : ones cs = true
  nm : cs[0]? = some (strV (ws.getD 0 []))
  tk : rightT ws = true → ws.getD 0 [] = wTick → cs[59]? = some (.int .u64 (((bareT (ws.getD 1 [])).getD 0 : Nat) : Int))
abbrev zC : List Value := [.string (txt []), .int .i64 0, .int .i64 0, .int .i32 0, .int .i32 0, .int .i32 0, .int .i32 0, .int .i32 0, .int .i32 0, .int .i64 0, .int .u32 0, .int .i32 0, .int .u32 0, .int .u32 0, .int .u8 0, .int .i64 0, .int .i64 0, .int .i64 0, .int .u8 0, .int .u8 0, .int .u8 0, .int .u8 0, .int .u8 0, .int .u8 0, .int .u8 0, .int .u8 0, .int .u8 0, .int .u8 0, .int .u8 0, .int .u8 0, .int .u8 0, .int .u8 0, .int .u8 0, .int .u8 0, .int .u8 0, .int .u8 0, .int .u8 0, .int .u8 0, .int .u8 0, .int .u8 0, .int .u8 0, .int .u8 0, .int .u8 0, .int .u8 0, .int .u8 0, .int .u8 0, .int .u8 0, .int .u8 0, .int .u8 0, .int .u8 0, .int .u64 0, .int .u8 0, .int .u32 0, .int .i64 0, .int .u32 0, .int .u8 0, .int .u8 0, .int .u16 0, .int .u64 0, .int .u64 0, .int .u64 0, .int .u64 0, .int .i64 0, .int .i64 0, .int .i64 0, .slice none 0 0]
theorem ones_spl : ∀ (cs : List Value) (n : Nat) (vs : List Value), ones cs = true → ones vs = true → ones (spl cs n vs) = true
  | [], _, _, _, _ => rfl
  | c :: cs, n + 1, vs, h, hv => by
    rw [ones, Bool.and_eq_true] at h
    show (c.oneCell' && ones (spl cs n vs)) = true
    rw [h.1, ones_spl cs n vs h.2 hv]; rfl
  | c :: cs, 0, [], h, _ => h
  | c :: cs, 0, v :: vs, h, hv => by
    rw [ones, Bool.and_eq_true] at h hv
    show (v.oneCell' && ones (spl cs 0 vs)) = true
    rw [hv.1, ones_spl cs 0 vs h.2 hv.2]; rfl
theorem tOk_eq (s : Tx) : (uOk 1000 s && decide ((bareV s : Int) > 0)) = tOk s := by
  rw [uOk, tOk]
  cases h : bareT s with
  | none => rfl
  | some k =>
    rw [(bareV_of h).1, Bool.eq_iff_iff]
    simp
theorem tOk_val {s : Tx} (h : tOk s = true) : (bareT s).getD 0 = bareV s := by
  rw [tOk] at h
  cases hb : bareT s with
  | none => rw [hb] at h; cases h
  | some k => exact (bareV_of hb).1.symm
theorem right_tick {a : Tx} {r : List Tx} (h : rightT (wTick :: a :: r) = true) : tOk a = true := by
  have e : rightT (wTick :: a :: r) = allP [tOk] (a :: r) := rfl
  rw [e] at h
  cases r with
  | nil => simpa [allP] using h
  | cons b r => simp [allP] at h
def CmdR (ws : List Tx) : Value → List It → List It → Prop := fun v I' H' => (∃ cs : List Value, v = .tuple #[.agg cs.toArray, .bool (rightT ws)] ∧ Cm ws cs) ∧ I' = [] ∧ H' = []
theorem sparse_any (l : Tx) (hl : l.length ≤ 70000) : Spc Tryz.prog 9 #[strV l] [gvI] [] (CmdR (splL 32#8 l)) := by
  have hlen := splL_len (c := 32#8) l
  have hct : l.count 32#8 ≤ l.length := List.count_le_length
  have hwl : WLen (splL 32#8 l) := fun a ha => by
    have h1 := splL_sum (c := 32#8) l
    have h2 : a.length ≤ (splL 32#8 l).flatten.length := by
      obtain ⟨l1, l2, e⟩ := List.append_of_mem ha
      rw [e]; simp; omega
    omega
  refine Spc.enter Tryz.func9 rfl rfl rfl (fun w0 hw0 => ?_)
  refine CW.seq (CW.region (ef := [0]) (bk := []) (RL.alloc Tryz.zeroValue45 rfl rfl rfl rfl rfl ?_))
  intro b1
  refine RL.p rfl (RL.nil (NQ.seq (CW.seq (CW.region (ef := [1, 3]) (bk := [1]) (RL.p rfl (RL.callq (split_any 32#8 l (by omega)) Tryz.call17 rfl rfl rfl rfl rfl (.inr rfl) ?_))))))
  rintro _ _ _ ⟨bw, rfl, rfl, rfl⟩
  obtain ⟨nm, w, hsp⟩ : ∃ nm w, splL 32#8 l = nm :: w := by
    cases h : splL 32#8 l with
    | nil => exact absurd h (splL_ne l)
    | cons nm w => exact ⟨nm, w, rfl⟩
  generalize hws : splL 32#8 l = ws at hlen hwl hsp ⊢
  generalize hn : ws.length = n at hlen ⊢
  have hn1 : 1 ≤ n := by omega
  have hnb : n ≤ 1000000 := by omega
  rw [← wsl_0]
  have hnx : nxW ws (0, true) = nm := by rw [hsp]; rfl
  have htl : tlW ws (0, true) = (1, true) := by
    show (min (0 + 1) ws.length, true && decide (0 < ws.length)) = _
    rw [hn, Nat.min_eq_left (by omega), decide_eq_true (by omega)]; rfl
  have hx1 : ((1, true) : Wds).1 ≤ n := hn1
  subst hsp
  refine RL.buildS [_, _] Tryz.zeroValue56 pl_56 rfl rfl rfl rfl rfl (RL.box rfl rfl rfl rfl rfl rfl ?_)
  intro b2
  refine RL.p rfl (RL.nil (NQ.seq (CW.ok [2, 4] rfl (CW.seq (CW.region (ef := [1, 3, 4]) (bk := [1, 4]) (RL.p rfl (RL.callq (wnext_any b2 ⟨bw, 0, none⟩ n (nm :: w) (0, true) hn hn1 (Nat.zero_le _) hnb) Tryz.call18 rfl rfl rfl rfl rfl (.inr rfl) ?_)))))))
  rintro _ _ _ ⟨rfl, rfl, rfl⟩
  rw [hnx, htl]
  have hst : ∀ (q : Pd) (z : Wds), (stP (nm :: w) q z).1 ≤ n := fun q z => by rw [← hn]; exact Nat.min_le_right _ _
  have hsp : ∀ (ps : List Pd) (z : Wds), z.1 ≤ n → (stPs (nm :: w) ps z).1 ≤ n := fun ps z h => by rw [← hn] at h ⊢; exact stPs_le _ ps z h
  have hrx : ∀ z : Wds, (rdX (nm :: w) z).1 ≤ n := fun z => by
    have h1 : (tlW (nm :: w) z).1 ≤ n := by rw [← hn]; exact Nat.min_le_right _ _
    rw [rdX]
    split
    · exact hsp _ _ h1
    · exact h1
  have hfin : ∀ {ps : List Pd}, ¬ (nm = wSend ∨ nm = wDrop) → cmdP nm = some ps → ((stPs (nm :: w) ps (1, true)).2 && decide ((stPs (nm :: w) ps (1, true)).1 = n)) = rightT (nm :: w) := fun h1 h2 => by rw [← hn]; exact right_cmd h1 h2
  refine RL.buildS [strV nm, .int .i64 0, .int .i64 0, .int .i32 0, .int .i32 0, .int .i32 0, .int .i32 0, .int .i32 0, .int .i32 0, .int .i64 0, .int .u32 0, .int .i32 0, .int .u32 0, .int .u32 0, .int .u8 0, .int .i64 0, .int .i64 0, .int .i64 0, .int .u8 0, .int .u8 0, .int .u8 0, .int .u8 0, .int .u8 0, .int .u8 0, .int .u8 0, .int .u8 0, .int .u8 0, .int .u8 0, .int .u8 0, .int .u8 0, .int .u8 0, .int .u8 0, .int .u8 0, .int .u8 0, .int .u8 0, .int .u8 0, .int .u8 0, .int .u8 0, .int .u8 0, .int .u8 0, .int .u8 0, .int .u8 0, .int .u8 0, .int .u8 0, .int .u8 0, .int .u8 0, .int .u8 0, .int .u8 0, .int .u8 0, .int .u8 0, .int .u64 0, .int .u8 0, .int .u32 0, .int .i64 0, .int .u32 0, .int .u8 0, .int .u8 0, .int .u16 0, .int .u64 0, .int .u64 0, .int .u64 0, .int .u64 0, .int .i64 0, .int .i64 0, .int .i64 0, .slice none 0 0] Tryz.zeroValue45 pl_45 rfl rfl rfl rfl rfl (RL.alloc Tryz.zeroValue45 rfl rfl rfl rfl rfl ?_)
  intro b3
  refine RL.storeWq Tryz.sizeOf45 rfl rfl rfl rfl rfl rfl rfl ?_
  refine RL.nil (NQ.seq (CW.seq (CW.seq (CW.rg (RL.fieldAddr fa_45_0 rfl rfl rfl rfl (RL.loadq Tryz.isAgg9 rfl rfl rfl rfl ?_))))))
  refine RL.nil (NQ.seq ?_)
  refine CW.cutR (γ := Wds × List Value) (fun q => ((q.1.2 && decide (q.1.1 = n)) = rightT (nm :: w) ∧ q.1.1 ≤ n) ∧ Cm (nm :: w) q.2) (fun _ => [(2, .pointer (some ⟨b1, 0, none⟩)), (4, .pointer (some ⟨b2, 0, none⟩)), (5, .pointer (some ⟨b3, 0, none⟩))]) (fun _ => [wsI ⟨bw, 0, none⟩ n (nm :: w), gvI])
    (fun q => [wdI b2 ⟨bw, 0, none⟩ n q.1, cel b3 q.2 45, cel b1 zC 45]) ?_ ?_
  ·
    refine CW.block (CW.seq (CW.seq (CW.rg (RL.cmp rfl rfl rfl rfl rfl (fun w' => eql_txt nm wSend w') ?_))))
    refine RL.p rfl (RL.nil (NQ.seq ?_))
    refine CW.cond rfl (fun gSend => ?_) (fun gSend => ?_)
    · have q0 := hn1
      have e : nm = wSend := by simpa using gSend
      refine CW.skip (NQ.seq (CW.condT rfl (gSend) (CW.seq (CW.region (ef := [1, 4]) (bk := [1, 4]) (RL.p rfl (RL.callq (snum_any b2 ⟨bw, 0, none⟩ n (nm :: w) (1, true) 7 hn hn1 hx1 hnb hwl) Tryz.call19 rfl rfl rfl rfl rfl (.inr rfl) ?_))))))
      rintro _ _ _ ⟨rfl, rfl, rfl⟩
      refine RL.conv Tryz.runUnderlying39 Tryz.runUnderlying3 rfl rfl rfl rfl (RL.fieldAddr fa_45_1 rfl rfl rfl rfl (RL.store (vs := [_]) Tryz.sizeOf3 rfl rfl rfl rfl rfl rfl rfl rfl rfl (by repeat (first | exact Upd.here | apply Upd.there)) ?_))
      refine RL.nil (NQ.seq (CW.ok [2, 4, 5, 14] rfl (CW.region (ef := [1, 3]) (bk := [1, 3]) (RL.p rfl (RL.callq (sreading_any b2 ⟨bw, 0, none⟩ n (nm :: w) (stP (nm :: w) (uOk 7) (1, true)) hn hn1 (hst _ _) hnb hwl) Tryz.call20 rfl rfl rfl rfl rfl (.inr rfl) ?_)))))
      rintro _ _ _ ⟨⟨rd, rfl, hrl, hro⟩, rfl, rfl⟩
      refine RL.fieldAddr fa_45_2 rfl rfl rfl rfl (RL.storeX (vs := rd) rfl (by rw [hrl]; exact Tryz.sizeOf42) rfl rfl rfl rfl rfl rfl rfl hro (by repeat (first | exact Upd.here | apply Upd.there)) (by rw [hrl]; show 0 + 2 + 57 ≤ 66; decide) ?_)
      refine RL.nil (NQ.block ?_)
      refine NQ.midR (rdX (nm :: w) (stP (nm :: w) (uOk 7) (1, true)), _) ?_ (.cons rfl (.cons rfl (.cons rfl .nil))) (fun w' h => h.rea (fun _ h => h) (by repeat (first | exact Rea.nil | (apply Rea.cons; (solve | (repeat (first | exact Del.here | apply Del.there)))))))
      exact ⟨⟨by rw [← hn]; exact right_send (.inl e), hrx _⟩, ⟨by show (strV nm :: spl _ 1 rd).length = 66; rw [List.length_cons, spl_length]; rfl, by show (true && ones (spl _ 1 rd)) = true; rw [ones_spl _ _ _ rfl hro]; rfl, rfl, (fun _ h => absurd (e.symm.trans h) (by decide))⟩⟩
    · have nSend : nm ≠ wSend := by simpa using gSend
      refine CW.rg (RL.cmp rfl rfl rfl rfl rfl (fun w' => eql_txt nm wDrop w') ?_)
      refine RL.p rfl (RL.nil (NQ.seq (CW.ok [2, 4, 5, 14, 16] rfl ?_)))
      refine CW.cond rfl (fun gDrop => ?_) (fun gDrop => ?_)
      · have q0 := hn1
        have e : nm = wDrop := by simpa using gDrop
        refine CW.seq (CW.region (ef := [1, 4]) (bk := [1, 4]) (RL.p rfl (RL.callq (snum_any b2 ⟨bw, 0, none⟩ n (nm :: w) (1, true) 7 hn hn1 hx1 hnb hwl) Tryz.call19 rfl rfl rfl rfl rfl (.inr rfl) ?_)))
        rintro _ _ _ ⟨rfl, rfl, rfl⟩
        refine RL.conv Tryz.runUnderlying39 Tryz.runUnderlying3 rfl rfl rfl rfl (RL.fieldAddr fa_45_1 rfl rfl rfl rfl (RL.store (vs := [_]) Tryz.sizeOf3 rfl rfl rfl rfl rfl rfl rfl rfl rfl (by repeat (first | exact Upd.here | apply Upd.there)) ?_))
        refine RL.nil (NQ.seq (CW.region (ef := [1, 3]) (bk := [1, 3]) (RL.p rfl (RL.callq (sreading_any b2 ⟨bw, 0, none⟩ n (nm :: w) (stP (nm :: w) (uOk 7) (1, true)) hn hn1 (hst _ _) hnb hwl) Tryz.call20 rfl rfl rfl rfl rfl (.inr rfl) ?_))))
        rintro _ _ _ ⟨⟨rd, rfl, hrl, hro⟩, rfl, rfl⟩
        refine RL.fieldAddr fa_45_2 rfl rfl rfl rfl (RL.storeX (vs := rd) rfl (by rw [hrl]; exact Tryz.sizeOf42) rfl rfl rfl rfl rfl rfl rfl hro (by repeat (first | exact Upd.here | apply Upd.there)) (by rw [hrl]; show 0 + 2 + 57 ≤ 66; decide) ?_)
        refine RL.nil (NQ.block ?_)
        refine NQ.midR (rdX (nm :: w) (stP (nm :: w) (uOk 7) (1, true)), _) ?_ (.cons rfl (.cons rfl (.cons rfl .nil))) (fun w' h => h.rea (fun _ h => h) (by repeat (first | exact Rea.nil | (apply Rea.cons; (solve | (repeat (first | exact Del.here | apply Del.there)))))))
        exact ⟨⟨by rw [← hn]; exact right_send (.inr e), hrx _⟩, ⟨by show (strV nm :: spl _ 1 rd).length = 66; rw [List.length_cons, spl_length]; rfl, by show (true && ones (spl _ 1 rd)) = true; rw [ones_spl _ _ _ rfl hro]; rfl, rfl, (fun _ h => absurd (e.symm.trans h) (by decide))⟩⟩
      · have nDrop : nm ≠ wDrop := by simpa using gDrop
        refine CW.seq (CW.seq (CW.rg (RL.cmp rfl rfl rfl rfl rfl (fun w' => eql_txt nm wRoll w') ?_)))
        refine RL.p rfl (RL.nil (NQ.seq ?_))
        refine CW.cond rfl (fun gRoll => ?_) (fun gRoll => ?_)
        · have q0 := hn1
          have e : nm = wRoll := by simpa using gRoll
          refine CW.skip (NQ.seq (CW.condT rfl (gRoll) (CW.region (ef := [1, 4]) (bk := [1, 4]) (RL.p rfl (RL.callq (snum_any b2 ⟨bw, 0, none⟩ n (nm :: w) (1, true) 7 hn hn1 hx1 hnb hwl) Tryz.call19 rfl rfl rfl rfl rfl (.inr rfl) ?_)))))
          rintro _ _ _ ⟨rfl, rfl, rfl⟩
          refine RL.conv Tryz.runUnderlying39 Tryz.runUnderlying3 rfl rfl rfl rfl (RL.fieldAddr fa_45_1 rfl rfl rfl rfl (RL.store (vs := [_]) Tryz.sizeOf3 rfl rfl rfl rfl rfl rfl rfl rfl rfl (by repeat (first | exact Upd.here | apply Upd.there)) ?_))
          refine RL.nil (NQ.block ?_)
          refine NQ.midR (stPs (nm :: w) [uOk 7] (1, true), _) ?_ (.cons rfl (.cons rfl (.cons rfl .nil))) (fun w' h => h.rea (fun _ h => h) (by repeat (first | exact Rea.nil | (apply Rea.cons; (solve | (repeat (first | exact Del.here | apply Del.there)))))))
          exact ⟨⟨(hfin (by rw [e]; decide) (by rw [e]; rfl)), hst _ _⟩, ⟨rfl, rfl, rfl, (fun _ h => absurd (e.symm.trans h) (by decide))⟩⟩
        · have nRoll : nm ≠ wRoll := by simpa using gRoll
          refine CW.seq (CW.rg (RL.cmp rfl rfl rfl rfl rfl (fun w' => eql_txt nm wHealth w') ?_))
          refine RL.p rfl (RL.nil (NQ.seq ?_))
          refine CW.cond rfl (fun gHealth => ?_) (fun gHealth => ?_)
          · have q0 := hn1
            have e : nm = wHealth := by simpa using gHealth
            refine CW.skip (NQ.seq (CW.condT rfl (gHealth) (CW.region (ef := [1, 4]) (bk := [1, 4]) (RL.p rfl (RL.callq (snum_any b2 ⟨bw, 0, none⟩ n (nm :: w) (1, true) 7 hn hn1 hx1 hnb hwl) Tryz.call19 rfl rfl rfl rfl rfl (.inr rfl) ?_)))))
            rintro _ _ _ ⟨rfl, rfl, rfl⟩
            refine RL.conv Tryz.runUnderlying39 Tryz.runUnderlying3 rfl rfl rfl rfl (RL.fieldAddr fa_45_1 rfl rfl rfl rfl (RL.store (vs := [_]) Tryz.sizeOf3 rfl rfl rfl rfl rfl rfl rfl rfl rfl (by repeat (first | exact Upd.here | apply Upd.there)) ?_))
            refine RL.nil (NQ.block ?_)
            refine NQ.midR (stPs (nm :: w) [uOk 7] (1, true), _) ?_ (.cons rfl (.cons rfl (.cons rfl .nil))) (fun w' h => h.rea (fun _ h => h) (by repeat (first | exact Rea.nil | (apply Rea.cons; (solve | (repeat (first | exact Del.here | apply Del.there)))))))
            exact ⟨⟨(hfin (by rw [e]; decide) (by rw [e]; rfl)), hst _ _⟩, ⟨rfl, rfl, rfl, (fun _ h => absurd (e.symm.trans h) (by decide))⟩⟩
          · have nHealth : nm ≠ wHealth := by simpa using gHealth
            refine CW.rg (RL.cmp rfl rfl rfl rfl rfl (fun w' => eql_txt nm wReserved w') ?_)
            refine RL.p rfl (RL.nil (NQ.seq ?_))
            refine CW.cond rfl (fun gReserved => ?_) (fun gReserved => ?_)
            · have q0 := hn1
              have e : nm = wReserved := by simpa using gReserved
              refine CW.region (ef := [1, 4]) (bk := [1, 4]) (RL.p rfl (RL.callq (snum_any b2 ⟨bw, 0, none⟩ n (nm :: w) (1, true) 7 hn hn1 hx1 hnb hwl) Tryz.call19 rfl rfl rfl rfl rfl (.inr rfl) ?_))
              rintro _ _ _ ⟨rfl, rfl, rfl⟩
              refine RL.conv Tryz.runUnderlying39 Tryz.runUnderlying3 rfl rfl rfl rfl (RL.fieldAddr fa_45_1 rfl rfl rfl rfl (RL.store (vs := [_]) Tryz.sizeOf3 rfl rfl rfl rfl rfl rfl rfl rfl rfl (by repeat (first | exact Upd.here | apply Upd.there)) ?_))
              refine RL.nil (NQ.block ?_)
              refine NQ.midR (stPs (nm :: w) [uOk 7] (1, true), _) ?_ (.cons rfl (.cons rfl (.cons rfl .nil))) (fun w' h => h.rea (fun _ h => h) (by repeat (first | exact Rea.nil | (apply Rea.cons; (solve | (repeat (first | exact Del.here | apply Del.there)))))))
              exact ⟨⟨(hfin (by rw [e]; decide) (by rw [e]; rfl)), hst _ _⟩, ⟨rfl, rfl, rfl, (fun _ h => absurd (e.symm.trans h) (by decide))⟩⟩
            · have nReserved : nm ≠ wReserved := by simpa using gReserved
              refine CW.seq (CW.rg (RL.cmp rfl rfl rfl rfl rfl (fun w' => eql_txt nm wSkip w') ?_))
              refine RL.p rfl (RL.nil (NQ.seq (CW.ok [2, 4, 5, 14, 34] rfl ?_)))
              refine CW.cond rfl (fun gSkip => ?_) (fun gSkip => ?_)
              · have q0 := hn1
                have e : nm = wSkip := by simpa using gSkip
                refine CW.seq (CW.region (ef := [1, 4]) (bk := [1, 4]) (RL.p rfl (RL.callq (snum_any b2 ⟨bw, 0, none⟩ n (nm :: w) (1, true) 7 hn hn1 hx1 hnb hwl) Tryz.call19 rfl rfl rfl rfl rfl (.inr rfl) ?_)))
                rintro _ _ _ ⟨rfl, rfl, rfl⟩
                refine RL.conv Tryz.runUnderlying39 Tryz.runUnderlying3 rfl rfl rfl rfl (RL.fieldAddr fa_45_1 rfl rfl rfl rfl (RL.store (vs := [_]) Tryz.sizeOf3 rfl rfl rfl rfl rfl rfl rfl rfl rfl (by repeat (first | exact Upd.here | apply Upd.there)) ?_))
                refine RL.nil (NQ.seq (CW.region (ef := [1, 3]) (bk := [1, 3]) (RL.p rfl (RL.callq (snum_any b2 ⟨bw, 0, none⟩ n (nm :: w) (stP (nm :: w) (uOk 7) (1, true)) 9223372036854775807 hn hn1 (hst _ _) hnb hwl) Tryz.call19 rfl rfl rfl rfl rfl (.inr rfl) ?_))))
                rintro _ _ _ ⟨rfl, rfl, rfl⟩
                refine RL.fieldAddr fa_45_3 rfl rfl rfl rfl (RL.store (vs := [_]) Tryz.sizeOf39 rfl rfl rfl rfl rfl rfl rfl rfl rfl (by repeat (first | exact Upd.here | apply Upd.there)) ?_)
                refine RL.nil (NQ.block ?_)
                refine NQ.midR (stPs (nm :: w) [uOk 7, uOk M63] (1, true), _) ?_ (.cons rfl (.cons rfl (.cons rfl .nil))) (fun w' h => h.rea (fun _ h => h) (by repeat (first | exact Rea.nil | (apply Rea.cons; (solve | (repeat (first | exact Del.here | apply Del.there)))))))
                exact ⟨⟨(hfin (by rw [e]; decide) (by rw [e]; rfl)), hst _ _⟩, ⟨rfl, rfl, rfl, (fun _ h => absurd (e.symm.trans h) (by decide))⟩⟩
              · have nSkip : nm ≠ wSkip := by simpa using gSkip
                refine CW.seq (CW.rg (RL.cmp rfl rfl rfl rfl rfl (fun w' => eql_txt nm wFar w') ?_))
                refine RL.p rfl (RL.nil (NQ.seq ?_))
                refine CW.cond rfl (fun gFar => ?_) (fun gFar => ?_)
                · have q0 := hn1
                  have e : nm = wFar := by simpa using gFar
                  refine CW.seq (CW.region (ef := [1, 3]) (bk := [1, 3]) (RL.p rfl (RL.callq (snum_any b2 ⟨bw, 0, none⟩ n (nm :: w) (1, true) 255 hn hn1 hx1 hnb hwl) Tryz.call19 rfl rfl rfl rfl rfl (.inr rfl) ?_)))
                  rintro _ _ _ ⟨rfl, rfl, rfl⟩
                  refine RL.fieldAddr fa_45_3 rfl rfl rfl rfl (RL.store (vs := [_]) Tryz.sizeOf39 rfl rfl rfl rfl rfl rfl rfl rfl rfl (by repeat (first | exact Upd.here | apply Upd.there)) ?_)
                  refine RL.nil (NQ.seq (CW.ok [2, 4, 5, 14] rfl (CW.region (ef := [1, 3]) (bk := [1, 3]) (RL.p rfl (RL.callq (svec_any b2 ⟨bw, 0, none⟩ n (nm :: w) (stP (nm :: w) (uOk 255) (1, true)) hn hn1 (hst _ _) hnb hwl) Tryz.call21 rfl rfl rfl rfl rfl (.inr rfl) ?_)))))
                  rintro _ _ _ ⟨rfl, rfl, rfl⟩
                  refine RL.fieldAddr fa_45_6 rfl rfl rfl rfl (RL.store (vs := [_, _, _]) Tryz.sizeOf36 rfl rfl rfl rfl rfl rfl rfl rfl rfl (by repeat (first | exact Upd.here | apply Upd.there)) ?_)
                  refine RL.nil (NQ.block ?_)
                  refine NQ.midR (stPs (nm :: w) [uOk 255, sOk, sOk, sOk] (1, true), _) ?_ (.cons rfl (.cons rfl (.cons rfl .nil))) (fun w' h => h.rea (fun _ h => h) (by repeat (first | exact Rea.nil | (apply Rea.cons; (solve | (repeat (first | exact Del.here | apply Del.there)))))))
                  exact ⟨⟨(hfin (by rw [e]; decide) (by rw [e]; rfl)), hsp _ _ hx1⟩, ⟨rfl, rfl, rfl, (fun _ h => absurd (e.symm.trans h) (by decide))⟩⟩
                · have nFar : nm ≠ wFar := by simpa using gFar
                  refine CW.seq (CW.seq (CW.rg (RL.cmp rfl rfl rfl rfl rfl (fun w' => eql_txt nm wKey w') ?_)))
                  refine RL.p rfl (RL.nil (NQ.seq ?_))
                  refine CW.cond rfl (fun gKey => ?_) (fun gKey => ?_)
                  · have q0 := hn1
                    have e : nm = wKey := by simpa using gKey
                    refine CW.skip (NQ.seq (CW.condT rfl (gKey) (CW.skip (NQ.block ?_))))
                    refine NQ.midR (stPs (nm :: w) [] (1, true), _) ?_ (.cons rfl (.cons rfl (.cons rfl .nil))) (fun w' h => h.rea (fun _ h => h) (by repeat (first | exact Rea.nil | (apply Rea.cons; (solve | (repeat (first | exact Del.here | apply Del.there)))))))
                    exact ⟨⟨(hfin (by rw [e]; decide) (by rw [e]; rfl)), hx1⟩, ⟨rfl, rfl, rfl, (fun _ h => absurd (e.symm.trans h) (by decide))⟩⟩
                  · have nKey : nm ≠ wKey := by simpa using gKey
                    refine CW.seq (CW.rg (RL.cmp rfl rfl rfl rfl rfl (fun w' => eql_txt nm wReset w') ?_))
                    refine RL.p rfl (RL.nil (NQ.seq ?_))
                    refine CW.cond rfl (fun gReset => ?_) (fun gReset => ?_)
                    · have q0 := hn1
                      have e : nm = wReset := by simpa using gReset
                      refine CW.skip (NQ.seq (CW.condT rfl (gReset) (CW.skip (NQ.block ?_))))
                      refine NQ.midR (stPs (nm :: w) [] (1, true), _) ?_ (.cons rfl (.cons rfl (.cons rfl .nil))) (fun w' h => h.rea (fun _ h => h) (by repeat (first | exact Rea.nil | (apply Rea.cons; (solve | (repeat (first | exact Del.here | apply Del.there)))))))
                      exact ⟨⟨(hfin (by rw [e]; decide) (by rw [e]; rfl)), hx1⟩, ⟨rfl, rfl, rfl, (fun _ h => absurd (e.symm.trans h) (by decide))⟩⟩
                    · have nReset : nm ≠ wReset := by simpa using gReset
                      refine CW.rg (RL.cmp rfl rfl rfl rfl rfl (fun w' => eql_txt nm wStatus w') ?_)
                      refine RL.p rfl (RL.nil (NQ.seq (CW.ok [2, 4, 5, 14, 51] rfl ?_)))
                      refine CW.cond rfl (fun gStatus => ?_) (fun gStatus => ?_)
                      · have q0 := hn1
                        have e : nm = wStatus := by simpa using gStatus
                        refine CW.skip (NQ.block ?_)
                        refine NQ.midR (stPs (nm :: w) [] (1, true), _) ?_ (.cons rfl (.cons rfl (.cons rfl .nil))) (fun w' h => h.rea (fun _ h => h) (by repeat (first | exact Rea.nil | (apply Rea.cons; (solve | (repeat (first | exact Del.here | apply Del.there)))))))
                        exact ⟨⟨(hfin (by rw [e]; decide) (by rw [e]; rfl)), hx1⟩, ⟨rfl, rfl, rfl, (fun _ h => absurd (e.symm.trans h) (by decide))⟩⟩
                      · have nStatus : nm ≠ wStatus := by simpa using gStatus
                        refine CW.seq (CW.rg (RL.cmp rfl rfl rfl rfl rfl (fun w' => eql_txt nm wAgain w') ?_))
                        refine RL.p rfl (RL.nil (NQ.seq ?_))
                        refine CW.cond rfl (fun gAgain => ?_) (fun gAgain => ?_)
                        · have q0 := hn1
                          have e : nm = wAgain := by simpa using gAgain
                          refine CW.region (ef := [1, 3]) (bk := [1, 3]) (RL.p rfl (RL.callq (snum_any b2 ⟨bw, 0, none⟩ n (nm :: w) (1, true) 9223372036854775807 hn hn1 hx1 hnb hwl) Tryz.call19 rfl rfl rfl rfl rfl (.inr rfl) ?_))
                          rintro _ _ _ ⟨rfl, rfl, rfl⟩
                          refine RL.fieldAddr fa_45_3 rfl rfl rfl rfl (RL.store (vs := [_]) Tryz.sizeOf39 rfl rfl rfl rfl rfl rfl rfl rfl rfl (by repeat (first | exact Upd.here | apply Upd.there)) ?_)
                          refine RL.nil (NQ.block ?_)
                          refine NQ.midR (stPs (nm :: w) [uOk M63] (1, true), _) ?_ (.cons rfl (.cons rfl (.cons rfl .nil))) (fun w' h => h.rea (fun _ h => h) (by repeat (first | exact Rea.nil | (apply Rea.cons; (solve | (repeat (first | exact Del.here | apply Del.there)))))))
                          exact ⟨⟨(hfin (by rw [e]; decide) (by rw [e]; rfl)), hst _ _⟩, ⟨rfl, rfl, rfl, (fun _ h => absurd (e.symm.trans h) (by decide))⟩⟩
                        · have nAgain : nm ≠ wAgain := by simpa using gAgain
                          refine CW.seq (CW.rg (RL.cmp rfl rfl rfl rfl rfl (fun w' => eql_txt nm wBytes w') ?_))
                          refine RL.p rfl (RL.nil (NQ.seq ?_))
                          refine CW.cond rfl (fun gBytes => ?_) (fun gBytes => ?_)
                          · have q0 := hn1
                            have e : nm = wBytes := by simpa using gBytes
                            refine CW.region (ef := [1, 3]) (bk := [1, 3]) (RL.p rfl (RL.callq (shex_any b2 ⟨bw, 0, none⟩ n (nm :: w) (1, true) hn hn1 hx1 hnb hwl) Tryz.call22 rfl rfl rfl rfl rfl (.inr rfl) ?_))
                            rintro _ _ _ ⟨⟨hq, hm, hc, rfl⟩, rfl, rfl⟩
                            refine RL.fieldAddr fa_45_7 rfl rfl rfl rfl (RL.store (vs := [_]) Tryz.sizeOf43 rfl rfl rfl rfl rfl rfl rfl rfl rfl (by repeat (first | exact Upd.here | apply Upd.there)) ?_)
                            refine RL.nil (NQ.block ?_)
                            refine NQ.midR (stPs (nm :: w) [hxOk] (1, true), _) ?_ (.cons rfl (.cons rfl (.cons rfl .nil))) (fun w' h => h.rea (fun _ h => h) (by repeat (first | exact Rea.nil | (apply Rea.cons; (solve | (repeat (first | exact Del.here | apply Del.there)))))))
                            exact ⟨⟨(hfin (by rw [e]; decide) (by rw [e]; rfl)), hst _ _⟩, ⟨rfl, rfl, rfl, (fun _ h => absurd (e.symm.trans h) (by decide))⟩⟩
                          · have nBytes : nm ≠ wBytes := by simpa using gBytes
                            refine CW.seq (CW.rg (RL.cmp rfl rfl rfl rfl rfl (fun w' => eql_txt nm wTick w') ?_))
                            refine RL.p rfl (RL.nil (NQ.seq (CW.ok [2, 4, 5, 14, 65] rfl ?_)))
                            refine CW.cond rfl (fun gTick => ?_) (fun gTick => ?_)
                            · have q0 := hn1
                              have e : nm = wTick := by simpa using gTick
                              refine CW.seq (CW.region (ef := [1, 3]) (bk := [1, 3]) (RL.p rfl (RL.callq (snum_any b2 ⟨bw, 0, none⟩ n (nm :: w) (1, true) 1000 hn hn1 hx1 hnb hwl) Tryz.call19 rfl rfl rfl rfl rfl (.inr rfl) ?_)))
                              rintro _ _ _ ⟨rfl, rfl, rfl⟩
                              refine RL.fieldAddr fa_45_3 rfl rfl rfl rfl (RL.store (vs := [_]) Tryz.sizeOf39 rfl rfl rfl rfl rfl rfl rfl rfl rfl (by repeat (first | exact Upd.here | apply Upd.there)) ?_)
                              refine RL.nil (NQ.seq (CW.region (ef := [12]) (bk := [12]) (RL.p rfl (RL.p rfl (RL.p rfl (RL.fieldAddr fa_56_1 rfl rfl rfl rfl (RL.loadq Tryz.isAgg4 rfl rfl rfl rfl ?_)))))))
                              refine RL.p rfl ?_
                              apply RL.andB (d := 75) (dp := 79) (l' := (Sq.of [10, 11, 12])) rfl (sK [2, 4, 5, 14, 70] rfl)
                              ·
                                intro hb6 K6
                                refine RL.fieldAddr fa_45_3 rfl rfl rfl rfl (RL.loadq Tryz.isAgg39 rfl rfl rfl rfl ?_)
                                refine RL.p rfl (RL.p rfl ?_)
                                exact K6 _ (.cons rfl (sK [2, 4, 5, 14, 70] rfl))
                              ·
                                intro hb6 K6
                                refine RL.p rfl (RL.p rfl (RL.p rfl (RL.p rfl ?_)))
                                exact K6 _ (.cons rfl (sK [2, 4, 5, 14, 70] rfl))
                              refine RL.p rfl (RL.fieldAddr fa_56_1 rfl rfl rfl rfl (RL.store (vs := [_]) Tryz.sizeOf4 rfl rfl rfl rfl rfl rfl rfl rfl rfl (by repeat (first | exact Upd.here | apply Upd.there)) ?_))
                              refine RL.nil (NQ.block ?_)
                              have hv : rightT (nm :: w) = true → bareV (nxW (nm :: w) (1, true)) = (bareT ((nm :: w).getD 1 [])).getD 0 := fun h => by
                                subst e
                                cases w with
                                | nil => cases h
                                | cons a r => exact (tOk_val (right_tick h)).symm
                              refine NQ.midR (stPs (nm :: w) [tOk] (1, true), _) ?_ (.cons rfl (.cons rfl (.cons rfl .nil))) (fun w' h => by
                                rw [show stPs (nm :: w) [tOk] (1, true) = (min 2 (nm :: w).length, true && uOk 1000 (nxW (nm :: w) (1, true)) && decide ((bareV (nxW (nm :: w) (1, true)) : Int) > 0)) by rw [Bool.true_and, tOk_eq]; rfl]
                                exact h.rea (fun _ h => h) (by repeat (first | exact Rea.nil | (apply Rea.cons; (solve | (repeat (first | exact Del.here | apply Del.there)))))))
                              exact ⟨⟨(hfin (by rw [e]; decide) (by rw [e]; rfl)), hst _ _⟩, ⟨rfl, rfl, rfl, fun h _ => by rw [← hv h]; rfl⟩⟩
                            · have nTick : nm ≠ wTick := by simpa using gTick
                              refine CW.seq (CW.rg (RL.cmp rfl rfl rfl rfl rfl (fun w' => eql_txt nm wSpoil w') ?_))
                              refine RL.p rfl (RL.nil (NQ.seq ?_))
                              refine CW.cond rfl (fun gSpoil => ?_) (fun gSpoil => ?_)
                              · have q0 := hn1
                                have e : nm = wSpoil := by simpa using gSpoil
                                refine CW.seq (CW.region (ef := [1, 3]) (bk := [1, 3]) (RL.p rfl (RL.callq (snum_any b2 ⟨bw, 0, none⟩ n (nm :: w) (1, true) 1 hn hn1 hx1 hnb hwl) Tryz.call19 rfl rfl rfl rfl rfl (.inr rfl) ?_)))
                                rintro _ _ _ ⟨rfl, rfl, rfl⟩
                                refine RL.fieldAddr fa_45_3 rfl rfl rfl rfl (RL.store (vs := [_]) Tryz.sizeOf39 rfl rfl rfl rfl rfl rfl rfl rfl rfl (by repeat (first | exact Upd.here | apply Upd.there)) ?_)
                                refine RL.nil (NQ.seq (CW.ok [2, 4, 5, 14] rfl (CW.seq (CW.region (ef := [1, 3]) (bk := [1, 3]) (RL.p rfl (RL.callq (snum_any b2 ⟨bw, 0, none⟩ n (nm :: w) (stP (nm :: w) (uOk 1) (1, true)) 9223372036854775807 hn hn1 (hst _ _) hnb hwl) Tryz.call19 rfl rfl rfl rfl rfl (.inr rfl) ?_))))))
                                rintro _ _ _ ⟨rfl, rfl, rfl⟩
                                refine RL.fieldAddr fa_45_4 rfl rfl rfl rfl (RL.store (vs := [_]) Tryz.sizeOf39 rfl rfl rfl rfl rfl rfl rfl rfl rfl (by repeat (first | exact Upd.here | apply Upd.there)) ?_)
                                refine RL.nil (NQ.seq (CW.region (ef := [1, 3]) (bk := [1, 3]) (RL.p rfl (RL.callq (snum_any b2 ⟨bw, 0, none⟩ n (nm :: w) (stP (nm :: w) (uOk M63) (stP (nm :: w) (uOk 1) (1, true))) 255 hn hn1 (hst _ _) hnb hwl) Tryz.call19 rfl rfl rfl rfl rfl (.inr rfl) ?_))))
                                rintro _ _ _ ⟨rfl, rfl, rfl⟩
                                refine RL.fieldAddr fa_45_5 rfl rfl rfl rfl (RL.store (vs := [_]) Tryz.sizeOf39 rfl rfl rfl rfl rfl rfl rfl rfl rfl (by repeat (first | exact Upd.here | apply Upd.there)) ?_)
                                refine RL.nil (NQ.block ?_)
                                refine NQ.midR (stPs (nm :: w) [uOk 1, uOk M63, uOk 255] (1, true), _) ?_ (.cons rfl (.cons rfl (.cons rfl .nil))) (fun w' h => h.rea (fun _ h => h) (by repeat (first | exact Rea.nil | (apply Rea.cons; (solve | (repeat (first | exact Del.here | apply Del.there)))))))
                                exact ⟨⟨(hfin (by rw [e]; decide) (by rw [e]; rfl)), hst _ _⟩, ⟨rfl, rfl, rfl, (fun _ h => absurd (e.symm.trans h) (by decide))⟩⟩
                              · have nSpoil : nm ≠ wSpoil := by simpa using gSpoil
                                refine CW.seq (CW.region (ef := [1]) (bk := [1]) (RL.loadW Tryz.isAgg45 Tryz.sizeOf45 rfl rfl rfl rfl (by repeat (first | exact List.Mem.head _ | apply List.Mem.tail)) (by first | rfl | assumption | (simp only [List.length_map]; assumption) | (simp only [List.length_map, List.length_replicate]; done) | (simp; done)) ?_))
                                refine RL.storeWq Tryz.sizeOf45 rfl rfl rfl rfl rfl rfl rfl ?_
                                refine RL.p rfl (RL.nil (NQ.seq (CW.ret (RQ.block ?_))))
                                have hno : rightT (nm :: w) = false := right_none (by rintro (h | h); exact nSend h; exact nDrop h) (by rw [cmdP, if_neg (by rintro (h | h | h); exact nRoll h; exact nHealth h; exact nReserved h), if_neg nSkip, if_neg nFar, if_neg (by rintro (h | h | h); exact nKey h; exact nReset h; exact nStatus h), if_neg nAgain, if_neg nBytes, if_neg nTick, if_neg nSpoil])
                                exact RQ.midR (RQ.post (resWT rfl rfl rfl Tryz.isAgg45 Tryz.sizeOf45 (by repeat (first | exact List.Mem.head _ | apply List.Mem.tail)) rfl) (Split.none _) ⟨⟨_, by rw [hno], ⟨rfl, rfl, rfl, fun h => by rw [hno] at h; cases h⟩⟩, rfl, rfl⟩)
  · rintro ⟨x', cs⟩ ⟨⟨hok, hle⟩, hC⟩
    dsimp only at hok hle hC ⊢
    refine CW.seq ?_
    refine CW.cutG (γ := Unit) (fun _ => True) (fun _ => [(2, .pointer (some ⟨b1, 0, none⟩)), (3, .bool (rightT (nm :: w)))]) (fun _ => [wsI ⟨bw, 0, none⟩ n (nm :: w), gvI]) (fun _ => [cel b1 cs 45]) ?_ (fun _ _ => ?_)
    ·
      refine CW.regionD (.cons 0 (.cons 1 (.cons 2 (.cons 3 (.cons 4 (.cons 5 (.cons 6 (.cons 7 (.cons 8 (.fork [9, 13] (fun k => (bif Nat.beq k 9 then (Sq.of [10, 11, 12, 13, 14]) else (Sq.of [9, 10, 11, 12, 14]))))))))))))) [13] [13] [1, 2, 3, 5, 6, 7, 8, 10, 11, 12, 14] mixed (by kernel_rfl) ?_
      refine RL.loadA Tryz.isAgg45 Tryz.sizeOf45 rfl rfl rfl rfl (vs := cs) (Rds.cel (by repeat (first | exact List.Mem.head _ | apply List.Mem.tail)) (fun j u h => by rw [Nat.zero_add]; exact h)) hC.len ?_
      refine RL.p rfl (RL.p rfl (RL.fieldAddr fa_56_1 rfl rfl rfl rfl (RL.loadq Tryz.isAgg4 rfl rfl rfl rfl ?_)))
      refine RL.p rfl ?_
      refine RL.part (d := 98) rfl (fun hg => ?_) (fun hg => ?_)
      · have hr : (((n - x'.1 : Nat) : Int) == 0) = rightT (nm :: w) := by
          rw [← hok, show x'.2 = true from hg, Bool.true_and, Bool.eq_iff_iff]
          simp
          omega
        refine RL.p rfl (RL.p rfl (RL.fieldAddr fa_56_0 rfl rfl rfl rfl ?_))
        refine RL.fork ⟨?_, ?_, trivial⟩
        ·
          refine RL.loadq Tryz.isAgg27 rfl rfl rfl rfl ?_
          refine RL.lenS Tryz.runUnderlying27 rfl rfl rfl rfl (RL.p rfl (RL.p rfl (RL.storeX (cs := zC) (vs := cs) (cs' := cs) (spl_all hC.len) (by rw [hC.len]; exact Tryz.sizeOf45) rfl rfl rfl rfl rfl rfl rfl hC.one (by repeat (first | exact Upd.here | apply Upd.there)) (by rw [hC.len]; decide) ?_)))
          refine RL.p rfl (RL.nil ?_)
          exact NQ.midG () trivial (.cons rfl (.cons (by rw [← hr]; first | done | rfl) .nil)) (fun w' h => h.rea (fun _ h => h) (by repeat (first | exact Rea.nil | (apply Rea.cons; (solve | (repeat (first | exact Del.here | apply Del.there)))))))
        ·
          refine RL.storeX (cs := zC) (vs := cs) (cs' := cs) (spl_all hC.len) (by rw [hC.len]; exact Tryz.sizeOf45) rfl rfl rfl rfl rfl rfl rfl hC.one (by repeat (first | exact Upd.here | apply Upd.there)) (by rw [hC.len]; decide) ?_
          refine RL.loadq Tryz.isAgg27 rfl rfl rfl rfl ?_
          refine RL.lenS Tryz.runUnderlying27 rfl rfl rfl rfl (RL.p rfl (RL.p rfl (RL.p rfl (RL.nil ?_))))
          exact NQ.midG () trivial (.cons rfl (.cons (by rw [← hr]; first | done | rfl) .nil)) (fun w' h => h.rea (fun _ h => h) (by repeat (first | exact Rea.nil | (apply Rea.cons; (solve | (repeat (first | exact Del.here | apply Del.there)))))))
      · have hr : false = rightT (nm :: w) := by rw [← hok, show x'.2 = false from hg]; rfl
        refine RL.p rfl (RL.p rfl (RL.p rfl ?_))
        refine RL.fork ⟨?_, ?_, trivial⟩
        ·
          refine RL.p rfl (RL.p rfl (RL.p rfl (RL.p rfl (RL.storeX (cs := zC) (vs := cs) (cs' := cs) (spl_all hC.len) (by rw [hC.len]; exact Tryz.sizeOf45) rfl rfl rfl rfl rfl rfl rfl hC.one (by repeat (first | exact Upd.here | apply Upd.there)) (by rw [hC.len]; decide) ?_))))
          refine RL.p rfl (RL.nil ?_)
          exact NQ.midG () trivial (.cons rfl (.cons (by rw [← hr]; first | done | rfl) .nil)) (fun w' h => h.rea (fun _ h => h) (by repeat (first | exact Rea.nil | (apply Rea.cons; (solve | (repeat (first | exact Del.here | apply Del.there)))))))
        ·
          refine RL.storeX (cs := zC) (vs := cs) (cs' := cs) (spl_all hC.len) (by rw [hC.len]; exact Tryz.sizeOf45) rfl rfl rfl rfl rfl rfl rfl hC.one (by repeat (first | exact Upd.here | apply Upd.there)) (by rw [hC.len]; decide) ?_
          refine RL.p rfl (RL.p rfl (RL.p rfl (RL.p rfl (RL.p rfl (RL.nil ?_)))))
          exact NQ.midG () trivial (.cons rfl (.cons (by rw [← hr]; first | done | rfl) .nil)) (fun w' h => h.rea (fun _ h => h) (by repeat (first | exact Rea.nil | (apply Rea.cons; (solve | (repeat (first | exact Del.here | apply Del.there)))))))
    ·
      refine CW.ret ?_
      exact RQ.post (resWT rfl rfl rfl Tryz.isAgg45 Tryz.sizeOf45 (by repeat (first | exact List.Mem.head _ | apply List.Mem.tail)) hC.len) (Split.none _) ⟨⟨cs, rfl, hC⟩, rfl, rfl⟩
end Go.Proofs.YtpaemkemknfmfaaGreatDoor

namespace Go.Proofs.YtpaemkemknfmfaaGreatDoor
open Go.PK
/-! ### Lines -/
theorem ssays_any (s : Tx) : Spc Tryz.prog 10 #[strV s] [] [] (Is (.bool (saysT s))) := by
  refine Spc.enter Tryz.func10 rfl rfl rfl (fun w0 hw0 => ?_)
  refine CW.seq (CW.rg (RL.p rfl (RL.nil (NQ.seq (CW.seq (CW.rg (RL.p rfl (RL.cmp rfl rfl rfl rfl rfl (fun w => neq_txt s [] w) ?_))))))))
  refine RL.p rfl ?_
  refine RL.part (d := 5) rfl (fun h => ?_) (fun h => ?_)
  · have hs : s ≠ [] := by simpa using h
    cases s with
    | nil => exact absurd rfl hs
    | cons c r =>
    refine RL.p rfl (RL.idxTxt (j := 0) Tryz.runUnderlying9 rfl rfl rfl rfl rfl rfl rfl (RL.p rfl (RL.p rfl (RL.p rfl (RL.nil (NQ.seq (CW.ok [2] rfl (CW.ret ?_))))))))
    refine RQ.post (res1 rfl rfl) (Split.none _) ⟨?_, rfl, rfl⟩
    congr 1
    rw [saysT, Bool.eq_iff_iff]
    have e : ((c.toNat : Int) = 35) ↔ c = 35#8 := ⟨fun h => BitVec.eq_of_toNat_eq (by show c.toNat = 35; omega), fun h => by rw [h]; rfl⟩
    simp [e]
  · have hs : s = [] := by simpa using h
    subst hs
    refine RL.p rfl (RL.p rfl (RL.p rfl (RL.p rfl (RL.p rfl (RL.nil (NQ.seq (CW.ok [2] rfl (CW.ret ?_))))))))
    exact RQ.post (res1 rfl rfl) (Split.none _) ⟨rfl, rfl, rfl⟩
theorem rsays_any (s : Tx) : Spc Tryz.prog 12 #[strV s] [] [] (Is (.bool (saysT s))) := by
  refine Spc.enter Tryz.func12 rfl rfl rfl (fun w0 hw0 => ?_)
  refine CW.seq (CW.rg (RL.p rfl (RL.nil (NQ.seq (CW.seq (CW.rg (RL.p rfl (RL.cmp rfl rfl rfl rfl rfl (fun w => neq_txt s [] w) ?_))))))))
  refine RL.p rfl ?_
  refine RL.part (d := 5) rfl (fun h => ?_) (fun h => ?_)
  · have hs : s ≠ [] := by simpa using h
    cases s with
    | nil => exact absurd rfl hs
    | cons c r =>
    refine RL.p rfl (RL.idxTxt (j := 0) Tryz.runUnderlying9 rfl rfl rfl rfl rfl rfl rfl (RL.p rfl (RL.p rfl (RL.p rfl (RL.nil (NQ.seq (CW.ok [2] rfl (CW.ret ?_))))))))
    refine RQ.post (res1 rfl rfl) (Split.none _) ⟨?_, rfl, rfl⟩
    congr 1
    rw [saysT, Bool.eq_iff_iff]
    have e : ((c.toNat : Int) = 35) ↔ c = 35#8 := ⟨fun h => BitVec.eq_of_toNat_eq (by show c.toNat = 35; omega), fun h => by rw [h]; rfl⟩
    simp [e]
  · have hs : s = [] := by simpa using h
    subst hs
    refine RL.p rfl (RL.p rfl (RL.p rfl (RL.p rfl (RL.p rfl (RL.nil (NQ.seq (CW.ok [2] rfl (CW.ret ?_))))))))
    exact RQ.post (res1 rfl rfl) (Split.none _) ⟨rfl, rfl, rfl⟩
theorem slsRd {I H : List It} {b n j : Nat} {L : List Tx} {s : Tx} (hm : sls (some ⟨b, 0, none⟩) 1 n (L.map strV) ∈ I) (h : L[j]? = some s) : Rd I H ⟨b, 0 + j * 1, none⟩ (strV s) := by
  have h2 := Rd.getS (H := H) (j := j * 1) (v := strV s) hm (by rw [show j * 1 = j by omega, List.getElem?_map, h]; rfl)
  rwa [add_none] at h2
/-- A text's lines, told. -/
def LnT (L : List Tx) : Value → List It → List It → Prop := fun v I' H' => ∃ b c, v = .slice (some ⟨b, 0, none⟩) (linT L).length c ∧ I' = [sls (some ⟨b, 0, none⟩) 1 L.length (L.map strV)] ∧ H' = []
theorem slines_any (t : Tx) (ht : t.length ≤ 70000) : Spc Tryz.prog 7 #[strV t] [gvI] [] (LnT (splL 10#8 t)) := by
  have hne := splL_ne (c := 10#8) t
  have hlen := splL_len (c := 10#8) t
  have hct : t.count 10#8 ≤ t.length := List.count_le_length
  refine Spc.enter Tryz.func7 rfl rfl rfl (fun w0 hw0 => ?_)
  refine CW.seq (CW.rg (RL.p rfl (RL.nil (NQ.seq (CW.seq (CW.region (ef := [1]) (bk := [1]) (RL.p rfl ?_)))))))
  refine RL.callf (split_any 10#8 t (by omega)) Tryz.call17 rfl rfl rfl rfl rfl (by repeat (first | exact Pick.nil | apply Pick.take | apply Pick.leave)) (by repeat (first | exact Lend.nil | (refine Lend.inI ?_ ?_; (solve | (repeat (first | exact List.Mem.head _ | apply List.Mem.tail)))) | (refine Lend.inH ?_ ?_; (solve | (repeat (first | exact List.Mem.head _ | apply List.Mem.tail)))))) (.inr rfl) ?_
  rintro _ _ _ ⟨b, rfl, rfl, rfl⟩ hfr
  generalize splL 10#8 t = L at hne hlen hfr ⊢
  have hpos := List.length_pos_iff.2 hne
  obtain ⟨s, hs⟩ : ∃ s, L[L.length - 1]? = some s := ⟨_, List.getElem?_eq_getElem (by omega)⟩
  have hlast : L.getLast? = some s := by rw [List.getLast?_eq_getElem?, hs]
  refine RL.p rfl (RL.nil (NQ.seq (CW.seq (CW.seq (CW.rg (RL.p rfl (RL.lenS Tryz.runUnderlying27 rfl rfl rfl rfl (RL.bx rfl (wrapV_i64 (by omega) (by omega)) ?_))))))))
  refine RL.p rfl (RL.nil (NQ.seq (CW.ok [2, 3, 4] rfl (CW.seq (CW.rg (RL.p rfl (RL.p rfl (RL.idxAt (j := L.length - 1) Tryz.runUnderlying27 Tryz.sizeOf9 rfl rfl rfl rfl rfl (by omega) (by omega) ?_))))))))
  refine RL.load Tryz.isAgg9 rfl rfl rfl rfl (slsRd (by repeat (first | exact List.Mem.head _ | apply List.Mem.tail)) hs) ?_
  refine RL.cmp rfl rfl rfl rfl rfl (fun w => eql_txt s [] w) ?_
  refine RL.nil (NQ.seq ?_)
  refine CW.cond rfl (fun he => ?_) (fun he => ?_)
  · have he' : s = [] := by simpa using he
    subst he'
    have hl : linT L = L.dropLast := by rw [linT, if_pos hlast]
    have hll : (linT L).length = L.length - 1 := by rw [hl, List.length_dropLast]
    have hz : (if L.length = 0 then some (⟨b, 0, none⟩ : Addr) else (some (⟨b, 0, none⟩ : Addr)).map (·.add (0 * 1))) = some ⟨b, 0, none⟩ := by split <;> rfl
    refine CW.rg (RL.p rfl (RL.p rfl (RL.slice (lo := 0) (hi := L.length - 1) Tryz.runUnderlying27 Tryz.sizeOf9 rfl rfl rfl rfl rfl (by show some _ = some _; congr 1; omega) (by omega) (by omega) ?_)))
    refine RL.p rfl (RL.nil (NQ.seq (CW.ok [3] rfl (CW.seq (CW.rg (RL.p rfl (RL.p rfl (RL.nil (NQ.seq (CW.ret ?_))))))))))
    refine RQ.postF (res1 rfl rfl) (Split.none _) (fun x hx => List.mem_append_left _ hx) hfr ⟨b, L.length, ?_, rfl, rfl⟩
    show Value.slice (if L.length = 0 then some (⟨b, 0, none⟩ : Addr) else (some (⟨b, 0, none⟩ : Addr)).map (·.add (0 * 1))) (L.length - 1 - 0) (L.length - 0) = _
    rw [hz, hll, Nat.sub_zero, Nat.sub_zero]
  · have he' : ¬ s = [] := by simpa using he
    have hl : linT L = L := by rw [linT, if_neg (by rw [hlast]; exact fun h => he' (Option.some.inj h))]
    refine CW.skip (NQ.seq (CW.ok [3] rfl (CW.seq (CW.rg (RL.p rfl (RL.p rfl (RL.nil (NQ.seq (CW.ret ?_)))))))))
    exact RQ.postF (res1 rfl rfl) (Split.none _) (fun x hx => List.mem_append_left _ hx) hfr ⟨b, L.length, by rw [hl], rfl, rfl⟩
end Go.Proofs.YtpaemkemknfmfaaGreatDoor

namespace Go.Proofs.YtpaemkemknfmfaaGreatDoor
open Go.PK
/-! ### Whether lines are too many, too long, or let too many ticks pass -/
def longB (l : Tx) : Bool := saysT l && decide (4000 < l.length)
def cntT (L : List Tx) (i : Nat) : Nat := (L.take i).countP saysT
def tkT (L : List Tx) (i : Nat) : Nat := ((L.take i).map tickS).sum
theorem cntT_step {L : List Tx} {i : Nat} {s : Tx} (h : L[i]? = some s) : cntT L (i + 1) = cntT L i + (bif saysT s then 1 else 0) := by
  rw [cntT, cntT, List.take_add_one, h, List.countP_append]
  show _ + [s].countP saysT = _
  rw [List.countP_cons, List.countP_nil, Nat.zero_add]
  cases saysT s <;> rfl
theorem tkT_step {L : List Tx} {i : Nat} {s : Tx} (h : L[i]? = some s) : tkT L (i + 1) = tkT L i + tickS s := by
  rw [tkT, tkT, List.take_add_one, h]; simp
theorem anyT_step {L : List Tx} {i : Nat} {s : Tx} (h : L[i]? = some s) : (L.take (i + 1)).any longB = ((L.take i).any longB || longB s) := by
  rw [List.take_add_one, h]; simp
theorem muchT_any {L : List Tx} {s : Tx} (hm : s ∈ L) (h : longB s = true) : muchT L = true := by
  have : L.any (fun l => saysT l && decide (4000 < l.length)) = true := List.any_eq_true.2 ⟨s, hm, h⟩
  rw [muchT, this]; rfl
theorem right_tk {r : List Tx} : rightT (wTick :: r) = (match r with
    | [a] => tOk a
    | _ => false) := by
  have e : rightT (wTick :: r) = allP [tOk] r := rfl
  rw [e]
  match r with
  | [] => rfl
  | [a] => simp [allP]
  | a :: b :: r => simp [allP]
/-- A line's ticks, by what it comes to. -/
theorem tickT_eq (s : Tx) : tickT s = if rightT (splL 32#8 s) = true ∧ (splL 32#8 s).getD 0 [] = wTick then (bareT ((splL 32#8 s).getD 1 [])).getD 0 else 0 := by
  unfold tickT
  generalize splL 32#8 s = ws
  match ws with
  | [] => rfl
  | [c] =>
    rw [if_neg]
    rintro ⟨h1, h2⟩
    have h2 : c = wTick := h2
    rw [h2, right_tk] at h1
    cases h1
  | [c, a] =>
    show (if c = wTick then (bif tOk a then (bareT a).getD 0 else 0) else 0) = if rightT [c, a] = true ∧ c = wTick then (bareT a).getD 0 else 0
    by_cases hc : c = wTick
    · rw [if_pos hc, hc, right_tk]
      show (bif tOk a then (bareT a).getD 0 else 0) = if tOk a = true ∧ wTick = wTick then (bareT a).getD 0 else 0
      cases ht : tOk a with
      | true => rw [if_pos ⟨rfl, rfl⟩]; rfl
      | false => rw [if_neg (by simp)]; rfl
    · rw [if_neg hc, if_neg (fun h => hc h.2)]
  | c :: a :: b :: r =>
    rw [if_neg]
    rintro ⟨h1, h2⟩
    have h2 : c = wTick := h2
    rw [h2, right_tk] at h1
    cases h1
theorem tickT_le (s : Tx) : tickT s ≤ 1000 := by
  unfold tickT
  split
  · next c a _ =>
    split
    · cases ht : tOk a with
      | true =>
        rw [tOk] at ht
        cases hb : bareT a with
        | none => rw [hb] at ht; cases ht
        | some n => rw [hb] at ht; exact (of_decide_eq_true ht).1
      | false => exact Nat.zero_le _
    · exact Nat.zero_le _
  · exact Nat.zero_le _
theorem tickS_le (s : Tx) : tickS s ≤ 1000 := by
  unfold tickS
  cases (saysT s && decide (s.length ≤ 4000)) with
  | true => exact tickT_le s
  | false => exact Nat.zero_le _
theorem tkT_le (L : List Tx) : ∀ i, tkT L i ≤ 1000 * i
  | 0 => by simp [tkT]
  | i + 1 => by
    have ih := tkT_le L i
    cases h : L[i]? with
    | none =>
      have : tkT L (i + 1) = tkT L i := by rw [tkT, tkT, List.take_add_one, h]; simp
      omega
    | some s =>
      have := tkT_step h
      have := tickS_le s
      omega
theorem wrapV_u64 {n : Int} (h1 : 0 ≤ n) (h2 : n ≤ 18446744073709551615) : Value.int .u64 (IntKind.u64.wrap n) = .int .u64 n := by
  congr 1; simp [IntKind.wrap, IntKind.bits, IntKind.signed]; omega
def MuR (L : List Tx) : Value → List It → List It → Prop := fun v I' H' => (∃ k : Nat, v = .tuple #[.int .i64 (k : Int), .bool (muchT L)] ∧ (muchT L = false → k = L.countP saysT)) ∧ I' = [] ∧ H' = []
theorem slong_any (b c N : Nat) (LL L : List Tx) (hm : ∀ i, i < L.length → LL[i]? = L[i]?) (hn : L.length ≤ 100000) (hl : ∀ s ∈ L, s.length ≤ 70000) :
    Spc Tryz.prog 8 #[.slice (some ⟨b, 0, none⟩) L.length c] [sls (some ⟨b, 0, none⟩) 1 N (LL.map strV), gvI] [] (MuR L) := by
  refine Spc.enter Tryz.func8 rfl rfl rfl (fun w0 hw0 => ?_)
  refine CW.seq (CW.rg (RL.p rfl (RL.p rfl (RL.nil (NQ.seq (CW.seq (CW.rg (RL.p rfl (RL.p rfl (RL.nil (NQ.seq (CW.seq (CW.seq ?_)))))))))))))
  refine CW.rg (RL.p rfl (RL.lenS Tryz.runUnderlying27 rfl rfl rfl rfl (RL.p rfl (RL.nil (NQ.seq (CW.block ?_))))))
  refine CW.loop (γ := Nat) (fun i => i ≤ L.length ∧ (L.take i).any longB = false) (fun i => [(4, .int .i64 (cntT L i : Int)), (5, .int .u64 (tkT L i : Int)), (10, .slice (some ⟨b, 0, none⟩) L.length c), (11, .int .i64 (L.length : Int)), (12, .int .i64 (i : Int))])
    (fun _ => [sls (some ⟨b, 0, none⟩) 1 N (LL.map strV), gvI]) (fun _ => []) (fun i => L.length - i) 0 ⟨by omega, rfl⟩ (.cons rfl (.cons rfl (.cons rfl (.cons rfl (.cons rfl .nil))))) (fun w h => h) ?_
  rintro i ⟨hi, hany⟩
  have hcn : cntT L i ≤ i := by
    have := List.countP_le_length (p := saysT) (l := L.take i)
    rw [List.length_take] at this
    unfold cntT; omega
  have htk := tkT_le L i
  refine CW.seq (CW.rg (RL.p rfl (RL.nil (NQ.seq (CW.seq ?_)))))
  refine CW.cond rfl (fun hlt => ?_) (fun hlt => ?_)
  · have hlt' : i < L.length := by simp at hlt; omega
    have hs : L[i]? = some (L[i]'hlt') := List.getElem?_eq_getElem hlt'
    have hmem := List.getElem_mem hlt'
    generalize L[i]'hlt' = s at hs hmem
    have hs2 : LL[i]? = some s := by rw [hm i hlt', hs]
    have hsl := hl s hmem
    have hstep : ∀ {g : Bool}, longB s = g → (L.take (i + 1)).any longB = g := fun h => by rw [anyT_step hs, hany, h]; rfl
    refine CW.skip (NQ.seq (CW.seq (CW.block (CW.seq (CW.rg (RL.idxAt (j := i) Tryz.runUnderlying27 Tryz.sizeOf9 rfl rfl rfl rfl rfl rfl hlt' (RL.load Tryz.isAgg9 rfl rfl rfl rfl (slsRd (by repeat (first | exact List.Mem.head _ | apply List.Mem.tail)) hs2) ?_)))))))
    refine RL.p rfl (RL.nil (NQ.seq (CW.seq (CW.seq (CW.rg (RL.p rfl (RL.callvq (ssays_any s) Tryz.call10 rfl rfl rfl rfl ?_)))))))
    refine RL.p rfl (RL.nil (NQ.seq ?_))
    refine CW.cond rfl (fun hsay => ?_) (fun hsay => ?_)
    · have hs0 : saysT s = false := by simpa using hsay
      have e1 : cntT L (i + 1) = cntT L i := by rw [cntT_step hs, hs0]; rfl
      have e2 : tkT L (i + 1) = tkT L i := by rw [tkT_step hs, tickS, hs0]; rfl
      refine CW.exit (XQ.seq (XQ.hit (NQ.seq (CW.ok [4, 5, 10, 11, 12] rfl (CW.rg (RL.bx rfl (wrapV_i64 (by omega) (by omega)) ?_))))))
      refine RL.p rfl (RL.nil ?_)
      exact NQ.round (g := i) (i + 1) ⟨hlt', hstep (by rw [longB, hs0]; rfl)⟩ (by show L.length - (i + 1) < L.length - i; omega) (.cons (by rw [e1]; rfl) (.cons (by rw [e2]; rfl) (.cons rfl (.cons rfl (.cons rfl .nil))))) (fun w h => h)
    · have hs1 : saysT s = true := by simpa using hsay
      have e1 : cntT L (i + 1) = cntT L i + 1 := by rw [cntT_step hs, hs1]; rfl
      refine CW.skip (NQ.seq (CW.ok [4, 5, 7, 10, 11, 12] rfl (CW.seq (CW.rg (RL.p rfl (RL.bx rfl (wrapV_i64 (by omega) (by omega)) ?_))))))
      refine RL.p rfl (RL.nil (NQ.seq (CW.seq (CW.seq (CW.rg (RL.p rfl (RL.lenTxt Tryz.runUnderlying9 rfl rfl rfl rfl (RL.p rfl (RL.nil (NQ.seq ?_))))))))))
      refine CW.cond rfl (fun hlong => ?_) (fun hlong => ?_)
      · have hlg : longB s = true := by
          have : (4000 : Int) < (s.length : Int) := by simpa using hlong
          rw [longB, hs1, decide_eq_true (by omega : 4000 < s.length)]; rfl
        have hmu := muchT_any hmem hlg
        refine CW.seq (CW.rg (RL.p rfl (RL.p rfl (RL.p rfl (RL.nil (NQ.seq (CW.ok [2, 3, 4, 5, 7, 10, 11, 12] rfl (CW.ret (RQ.seq (RQ.block (RQ.seq (RQ.seq (RQ.block ?_)))))))))))))
        refine RQ.seq ?_
        exact RQ.post (res2 rfl rfl rfl) (Split.none _) ⟨⟨cntT L i + 1, by rw [hmu]; rfl, fun h => by rw [hmu] at h; cases h⟩, rfl, rfl⟩
      · have hle4 : (s.length : Int) ≤ 4000 := by simpa using hlong
        have hlg : longB s = false := by rw [longB, hs1, decide_eq_false (by omega : ¬ 4000 < s.length)]; rfl
        have h4 : decide (s.length ≤ 4000) = true := decide_eq_true (by omega)
        have e2 : tkT L (i + 1) = tkT L i + tickT s := by rw [tkT_step hs, tickS, hs1, h4]; rfl
        have htl := tickT_le s
        refine CW.skip (NQ.seq (CW.seq (CW.region (ef := [1, 5, 6]) (bk := [1, 6]) (RL.p rfl (RL.callq (sparse_any s hsl) Tryz.call9 rfl rfl rfl rfl rfl (.inr rfl) ?_)))))
        rintro _ _ _ ⟨⟨cs, rfl, hC⟩, rfl, rfl⟩
        have hnm := hC.nm
        have htq := tickT_eq s
        generalize hnn : (splL 32#8 s).getD 0 [] = nm at hnm htq
        generalize hvv : ((bareT ((splL 32#8 s).getD 1 [])).getD 0) = tv at htq
        refine RL.p rfl (RL.p rfl (RL.p rfl (RL.alloc Tryz.zeroValue45 rfl rfl rfl rfl rfl ?_)))
        intro b1
        refine RL.storeX (cs := zC) (vs := cs) (cs' := cs) (spl_all hC.len) (by rw [hC.len]; exact Tryz.sizeOf45) rfl rfl rfl rfl rfl rfl rfl hC.one (by repeat (first | exact Upd.here | apply Upd.there)) (by rw [hC.len]; decide) ?_
        refine RL.p rfl (RL.nil (NQ.seq (CW.ok [4, 5, 8, 9, 10, 11, 12] rfl (CW.seq (CW.rg (RL.p rfl (RL.p rfl ?_)))))))
        apply RL.andB (d := 31) (dp := 35) (l' := (Sq.of [])) rfl (sK [4, 5, 8, 10, 11, 12] rfl)
        ·
          intro hb2 K2
          refine RL.fieldAddr fa_45_0 rfl rfl rfl rfl (RL.load Tryz.isAgg9 rfl rfl rfl rfl (Rd.get (by repeat (first | exact List.Mem.head _ | apply List.Mem.tail)) hnm) ?_)
          refine RL.cmp rfl rfl rfl rfl rfl (fun w => eql_txt _ wTick w) ?_
          refine RL.p rfl ?_
          exact K2 _ (.cons rfl (sK [4, 5, 8, 10, 11, 12] rfl))
        ·
          intro hb2 K2
          refine RL.p rfl (RL.p rfl (RL.p rfl (RL.p rfl ?_)))
          exact K2 _ (.cons rfl (sK [4, 5, 8, 10, 11, 12] rfl))
        refine RL.nil (NQ.seq ?_)
        refine CW.cond rfl (fun htick => ?_) (fun htick => ?_)
        · have ht1 : rightT (splL 32#8 s) = true ∧ nm = wTick := by simpa using htick
          have h59 := hC.tk ht1.1 (by rw [hnn]; exact ht1.2)
          rw [hvv] at h59
          rw [if_pos ht1] at htq
          have hle1 : tv ≤ 1000 := by omega
          refine CW.rg (RL.p rfl (RL.fieldAddr fa_45_3 rfl rfl rfl rfl (RL.load Tryz.isAgg39 rfl rfl rfl rfl (Rd.get (by repeat (first | exact List.Mem.head _ | apply List.Mem.tail)) h59) ?_)))
          refine RL.bx rfl (wrapV_u64 (by omega) (by omega)) ?_
          refine RL.p rfl (RL.nil (NQ.block (NQ.seq (CW.ok [4, 5, 10, 11, 12] rfl (CW.rg (RL.bx rfl (wrapV_i64 (by omega) (by omega)) ?_))))))
          refine RL.p rfl (RL.nil ?_)
          exact NQ.round (g := i) (i + 1) ⟨hlt', hstep hlg⟩ (by show L.length - (i + 1) < L.length - i; omega) (.cons (by rw [e1]; rfl) (.cons (by rw [e2, htq]; rfl) (.cons rfl (.cons rfl (.cons rfl .nil))))) (fun w h => h.rea (fun _ h => h) (by repeat (first | exact Rea.nil | (apply Rea.cons; (solve | (repeat (first | exact Del.here | apply Del.there)))))))
        · have ht0 : ¬ (rightT (splL 32#8 s) = true ∧ nm = wTick) := by
            rintro ⟨q1, q2⟩
            rw [q1, q2] at htick
            simp at htick
          rw [if_neg ht0] at htq
          refine CW.skip (NQ.block (NQ.seq (CW.rg (RL.bx rfl (wrapV_i64 (by omega) (by omega)) ?_))))
          refine RL.p rfl (RL.nil ?_)
          exact NQ.round (g := i) (i + 1) ⟨hlt', hstep hlg⟩ (by show L.length - (i + 1) < L.length - i; omega) (.cons (by rw [e1]; rfl) (.cons (by rw [e2, htq]; rfl) (.cons rfl (.cons rfl (.cons rfl .nil))))) (fun w h => h.rea (fun _ h => h) (by repeat (first | exact Rea.nil | (apply Rea.cons; (solve | (repeat (first | exact Del.here | apply Del.there)))))))
  · have hin : i = L.length := by simp at hlt; omega
    subst hin
    have e1 : cntT L L.length = L.countP saysT := by rw [cntT, List.take_length]
    have e2 : tkT L L.length = (L.map tickS).sum := by rw [tkT, List.take_length]
    have e3 : L.any (fun l => saysT l && decide (4000 < l.length)) = false := by rw [List.take_length] at hany; exact hany
    refine CW.exit (XQ.seq (XQ.seq (XQ.hit (NQ.seq (CW.seq (CW.rg (RL.p rfl (RL.p rfl (RL.p rfl (RL.p rfl ?_))))))))))
    apply RL.orB (d := 44) (dp := 47) (l' := (Sq.of [7, 8])) rfl (sK [41] rfl)
    ·
      intro hb4 K4
      refine RL.p rfl (RL.p rfl (RL.p rfl ?_))
      exact K4 _ (.cons rfl (sK [41] rfl))
    ·
      intro hb4 K4
      refine RL.p rfl (RL.p rfl (RL.p rfl ?_))
      exact K4 _ (.cons rfl (sK [41] rfl))
    refine RL.p rfl (RL.p rfl (RL.nil (NQ.seq (CW.ret ?_))))
    refine RQ.post (res2 rfl rfl rfl) (Split.none _) ⟨⟨cntT L L.length, ?_, fun _ => e1⟩, rfl, rfl⟩
    have q : ∀ (a b : Nat), decide ((a : Int) > (b : Int)) = decide (b < a) := fun a b => by
      rw [Bool.eq_iff_iff, decide_eq_true_eq, decide_eq_true_eq]; omega
    rw [muchT, e3, ← e1, ← e2, Bool.false_or, ← q, ← q]
    rfl
end Go.Proofs.YtpaemkemknfmfaaGreatDoor

namespace Go.Proofs.YtpaemkemknfmfaaGreatDoor
open Go.PK
/-! ### A text checked -/
def errC : Nat → Int
  | 0 => 0
  | 1 => 3
  | _ => 340
abbrev chkV (t : Tx) : Value := .tuple #[.int .i64 ((chkT t).1 : Int), .int .i64 (errC (chkT t).2)]
theorem mem_linT {L : List Tx} {s : Tx} (h : s ∈ linT L) : s ∈ L := by
  unfold linT at h
  split at h
  · rw [List.dropLast_eq_take] at h; exact List.mem_of_mem_take h
  · exact h
theorem linT_len (L : List Tx) : (linT L).length ≤ L.length := by
  unfold linT
  split
  · rw [List.length_dropLast]; omega
  · exact Nat.le_refl _
theorem line_len {t s : Tx} (h : s ∈ linesT t) : s.length ≤ t.length := by
  have h1 := splL_sum (c := 10#8) t
  have h2 : s.length ≤ (splL 10#8 t).flatten.length := by
    obtain ⟨l1, l2, e⟩ := List.append_of_mem (mem_linT h)
    rw [e]; simp; omega
  omega
theorem lines_len (t : Tx) : (linesT t).length ≤ t.length + 1 := by
  have h1 := linT_len (splL 10#8 t)
  have h2 := splL_len (c := 10#8) t
  have h3 : t.count 10#8 ≤ t.length := List.count_le_length
  unfold linesT; omega
theorem firstB_cons (l : Tx) (r : List Tx) (k : Nat) : firstB (l :: r) k = bif badT l then some (k + 1) else firstB r (k + 1) := rfl
theorem scheck_any (t : Tx) : Spc Tryz.prog 4 #[strV t] [gvI] [] (Is (chkV t)) := by
  refine Spc.enter Tryz.func4 rfl rfl rfl (fun w0 hw0 => ?_)
  refine CW.seq (CW.rg (RL.p rfl (RL.p rfl (RL.nil (NQ.seq ?_)))))
  refine CW.scope (γ := Nat) 0 (fun k => chkT t = (k, 2)) (fun k => [(4, .int .i64 (k : Int))]) (fun _ => [gvI]) (fun _ => []) rfl ?_ (fun k hk => ?_)
  ·
    refine CW.seq (CW.seq (CW.rg (RL.p rfl (RL.lenTxt Tryz.runUnderlying9 rfl rfl rfl rfl (RL.p rfl (RL.nil (NQ.seq ?_)))))))
    refine CW.cond rfl (fun h0 => ?_) (fun h0 => ?_)
    · have h0' : 65536 < t.length := by simp at h0; omega
      have e : chkT t = (0, 1) := by rw [chkT, if_pos h0']
      refine CW.seq (CW.rg (RL.p rfl (RL.p rfl (RL.nil (NQ.seq (CW.ret (RQ.seq (RQ.jump ?_))))))))
      exact RQ.post (res2 rfl rfl rfl) (Split.none _) ⟨by rw [chkV, e]; rfl, rfl, rfl⟩
    · have h0' : ¬ 65536 < t.length := by simp at h0; omega
      have hll := lines_len t
      have hlm : ∀ s ∈ linesT t, s.length ≤ 70000 := fun s hs => by have := line_len hs; omega
      have hget : ∀ i, i < (linesT t).length → (splL 10#8 t)[i]? = (linesT t)[i]? := fun i hi => (linT_get hi).symm
      refine CW.skip (NQ.seq (CW.seq (CW.rg (RL.p rfl (RL.nil (NQ.seq (CW.seq (CW.region (ef := [1]) (bk := [1]) (RL.p rfl (RL.callq (slines_any t (by omega)) Tryz.call7 rfl rfl rfl rfl rfl (.inr rfl) ?_))))))))))
      rintro _ _ _ ⟨b, c, rfl, rfl, rfl⟩
      rw [show (linT (splL 10#8 t)).length = (linesT t).length from rfl]
      generalize hN : (splL 10#8 t).length = N
      refine RL.p rfl (RL.nil (NQ.seq (CW.ok [4, 5] rfl (CW.seq (CW.region (ef := [1]) (bk := [1]) (RL.p rfl (RL.callq (slong_any b c N (splL 10#8 t) (linesT t) hget (by omega) hlm) Tryz.call8 rfl rfl rfl rfl rfl (.inr rfl) ?_)))))))
      rintro _ _ _ ⟨⟨k, rfl, hk⟩, rfl, rfl⟩
      refine RL.p rfl (RL.p rfl (RL.p rfl (RL.p rfl (RL.p rfl (RL.nil (NQ.seq (CW.seq (CW.seq (CW.rg (RL.p rfl (RL.nil (NQ.seq (CW.ok [4, 5, 6, 22] rfl ?_)))))))))))))
      refine CW.cond rfl (fun hmu => ?_) (fun hmu => ?_)
      · have hmu' : muchT (linesT t) = true := hmu
        have e : chkT t = (0, 1) := by rw [chkT, if_neg h0', hmu']; rfl
        refine CW.seq (CW.rg (RL.p rfl (RL.p rfl (RL.nil (NQ.seq (CW.ret (RQ.seq (RQ.jump ?_))))))))
        exact RQ.post (res2 rfl rfl rfl) (Split.none _) ⟨by rw [chkV, e]; rfl, rfl, rfl⟩
      · have hmu' : muchT (linesT t) = false := hmu
        have hk := hk hmu'
        have e : chkT t = match firstB (linesT t) 0 with
          | some k => (k, 2)
          | none => ((linesT t).countP saysT, 0) := by rw [chkT, if_neg h0', hmu']; rfl
        refine CW.skip (NQ.seq (CW.seq (CW.seq (CW.rg (RL.p rfl (RL.lenS Tryz.runUnderlying27 rfl rfl rfl rfl (RL.p rfl (RL.nil (NQ.seq (CW.block ?_))))))))))
        refine CW.loop (γ := Nat) (fun i => i ≤ (linesT t).length ∧ firstB ((linesT t).drop i) i = firstB (linesT t) 0) (fun i => [(6, .int .i64 (k : Int)), (23, .slice (some ⟨b, 0, none⟩) (linesT t).length c), (24, .int .i64 ((linesT t).length : Int)), (25, .int .i64 (i : Int))])
          (fun _ => [sls (some ⟨b, 0, none⟩) 1 N ((splL 10#8 t).map strV), gvI]) (fun _ => []) (fun i => (linesT t).length - i) 0 ⟨by omega, rfl⟩ (.cons rfl (.cons rfl (.cons rfl (.cons rfl .nil)))) (fun w h => h) ?_
        rintro i ⟨hi, hfb⟩
        refine CW.seq (CW.rg (RL.p rfl (RL.nil (NQ.seq (CW.seq ?_)))))
        refine CW.cond rfl (fun hlt => ?_) (fun hlt => ?_)
        · have hlt' : i < (linesT t).length := by simp at hlt; omega
          have hs : (linesT t)[i]? = some ((linesT t)[i]'hlt') := List.getElem?_eq_getElem hlt'
          have hdr : (linesT t).drop i = (linesT t)[i]'hlt' :: (linesT t).drop (i + 1) := List.drop_eq_getElem_cons hlt'
          have hmem := List.getElem_mem hlt'
          generalize (linesT t)[i]'hlt' = s at hs hmem hdr
          have hs2 : (splL 10#8 t)[i]? = some s := by rw [hget i hlt', hs]
          have hsl := hlm s hmem
          rw [hdr, firstB_cons] at hfb
          refine CW.skip (NQ.seq (CW.seq (CW.block (CW.seq (CW.rg (RL.p rfl (RL.idxAt (j := i) Tryz.runUnderlying27 Tryz.sizeOf9 rfl rfl rfl rfl rfl rfl hlt' (RL.load Tryz.isAgg9 rfl rfl rfl rfl (slsRd (by repeat (first | exact List.Mem.head _ | apply List.Mem.tail)) hs2) ?_))))))))
          refine RL.p rfl (RL.p rfl (RL.nil (NQ.seq (CW.seq (CW.region (ef := [1, 5, 6]) (bk := [1, 6]) (RL.p rfl (RL.callq (sparse_any s hsl) Tryz.call9 rfl rfl rfl rfl rfl (.inr rfl) ?_)))))))
          rintro _ _ _ ⟨⟨cs, rfl, hC⟩, rfl, rfl⟩
          refine RL.p rfl (RL.p rfl (RL.p rfl (RL.alloc Tryz.zeroValue45 rfl rfl rfl rfl rfl ?_)))
          intro b1
          refine RL.storeX (cs := zC) (vs := cs) (cs' := cs) (spl_all hC.len) (by rw [hC.len]; exact Tryz.sizeOf45) rfl rfl rfl rfl rfl rfl rfl hC.one (by repeat (first | exact Upd.here | apply Upd.there)) (by rw [hC.len]; decide) ?_
          refine RL.p rfl (RL.nil (NQ.seq (CW.ok [6, 8, 9, 11, 23, 24, 25] rfl (CW.seq (CW.rg (RL.p rfl (RL.callvq (ssays_any s) Tryz.call10 rfl rfl rfl rfl ?_)))))))
          refine RL.p rfl ?_
          apply RL.andB (d := 37) (dp := 40) (l' := (Sq.of [])) rfl (sK [6, 8, 23, 24, 25] rfl)
          ·
            intro hb3 K3
            refine RL.p rfl (RL.p rfl (RL.p rfl ?_))
            exact K3 _ (.cons rfl (sK [6, 8, 23, 24, 25] rfl))
          ·
            intro hb3 K3
            refine RL.p rfl (RL.p rfl (RL.p rfl ?_))
            exact K3 _ (.cons rfl (sK [6, 8, 23, 24, 25] rfl))
          refine RL.nil (NQ.seq ?_)
          refine CW.cond rfl (fun hbad => ?_) (fun hbad => ?_)
          · have hb : badT s = true := hbad
            rw [hb] at hfb
            refine CW.seq (CW.rg (RL.p rfl (RL.bx rfl (wrapV_i64 (by omega) (by omega)) ?_)))
            refine RL.p rfl (RL.nil (NQ.seq (CW.goto ?_)))
            refine GQ.block ?_
            refine GQ.seq ?_
            refine GQ.seq ?_
            refine GQ.block ?_
            refine GQ.seq ?_
            exact GQ.at (i + 1) (by rw [e, ← hfb]; rfl) (.cons rfl .nil) (fun w h => h.rea (fun _ h => by simp at h; simp [h]) (by repeat (first | exact Rea.nil | (apply Rea.cons; (solve | (repeat (first | exact Del.here | apply Del.there)))))))
          · have hb : badT s = false := hbad
            rw [hb] at hfb
            refine CW.skip (NQ.block (NQ.seq (CW.rg (RL.bx rfl (wrapV_i64 (by omega) (by omega)) ?_))))
            refine RL.p rfl (RL.nil ?_)
            exact NQ.round (g := i) (i + 1) ⟨hlt', hfb⟩ (by show (linesT t).length - (i + 1) < (linesT t).length - i; omega) (.cons rfl (.cons rfl (.cons rfl (.cons rfl .nil)))) (fun w h => h.rea (fun _ h => h) (by repeat (first | exact Rea.nil | (apply Rea.cons; (solve | (repeat (first | exact Del.here | apply Del.there)))))))
        · have hin : i = (linesT t).length := by simp at hlt; omega
          subst hin
          rw [List.drop_length] at hfb
          have e2 : chkT t = ((linesT t).countP saysT, 0) := by rw [e, ← hfb]; rfl
          refine CW.exit (XQ.seq (XQ.seq (XQ.hit (NQ.seq (CW.seq (CW.seq (CW.rg (RL.p rfl (RL.p rfl (RL.p rfl (RL.nil (NQ.seq (CW.ok [2, 3] rfl ?_)))))))))))))
          refine CW.ret (RQ.seq (RQ.jump ?_))
          exact RQ.post (res2 rfl rfl rfl) (Split.none _) ⟨by rw [chkV, e2, hk]; rfl, rfl, rfl⟩
  ·
    refine CW.seq (CW.skip (NQ.seq (CW.seq (CW.rg (RL.p rfl (RL.p rfl (RL.p rfl (RL.nil (NQ.seq (CW.ret (RQ.jump ?_)))))))))))
    exact RQ.post (res2 rfl rfl rfl) (Split.none _) ⟨by rw [chkV, hk]; rfl, rfl, rfl⟩
end Go.Proofs.YtpaemkemknfmfaaGreatDoor
