import Derived.Test.YtbdnebedmdoehaaU19
namespace Go.Proofs.Ytbdnebedmdoehaa
open Go.PK
/-! ### The reference's plain configuration -/
def halfS (seed : B8) (id kd : Int) : Sr := if aidB kd = true then aidS seed id kd else noS seed id kd
theorem halfS_rt (seed : B8) (id kd : Int) : (halfS seed id kd).rt = rootB seed id := by unfold halfS; split <;> rfl
theorem halfS_len (seed : B8) (id kd : Int) : (halfS seed id kd).cells.length = 48 := sr_len (by rw [halfS_rt]; exact rootB_len _ _)
theorem halfS_kd (seed : B8) (id kd : Int) : (halfS seed id kd).kd = kd := by unfold halfS; split <;> rfl
theorem has_take {gone : List Int} {k : Nat} {x n : Int} (h : gone[k]? = some x) : ((gone.take k).contains n || (x == n)) = (gone.take (k + 1)).contains n := by
  rw [List.take_add_one, h, List.contains_append]
  congr 1
  rw [Bool.eq_iff_iff]
  simp only [Option.toList_some, List.contains_cons, List.contains_nil, Bool.or_false, beq_iff_eq]
  exact eq_comm
theorem kindN_at {i : Nat} (h : i < 6) : ([.int .i64 1, .int .i64 2, .int .i64 3, .int .i64 4, .int .i64 5, .int .i64 8] : List Value)[0 + i * 1]? = some (.int .i64 (kindN i)) := by
  match i, h with
  | 0, _ => rfl
  | 1, _ => rfl
  | 2, _ => rfl
  | 3, _ => rfl
  | 4, _ => rfl
  | 5, _ => rfl
theorem rplain_any (seed : B8) (p : Option Addr) (c m : Nat) (gone : List Int) (hm : gone.length = m) (hb : m ≤ 1000000) : Spc Try.prog 7 #[U8 seed, .slice p m c] [sls p 1 m (ints gone)] [] (CfR 46 (plainC seed gone)) := by
  subst hm
  have hcm : (plainC seed gone).cm.length = 32 := rfl
  have hl45 := fun sl => cf_len hcm sl
  refine Spc.enter Try.func7 rfl rfl rfl (fun w0 hw0 => ?_)
  refine CW.seq (CW.region (ef := [0]) (bk := []) (RL.alloc Try.zeroValue38 rfl rfl rfl rfl rfl ?_))
  intro b1
  refine RL.nil (NQ.seq (CW.seq (CW.rg (RL.p rfl (RL.nil (NQ.seq (CW.seq (CW.region (ef := [7, 8]) (bk := [8]) (RL.p rfl (RL.bx rfl (wrapV_i64 (by omega) (by omega)) ?_))))))))))
  refine RL.buildA [_, _, _] Try.zeroValue26 Try.runUnderlying26 Try.sizeOf24 rfl rfl rfl rfl rfl (RL.p rfl (RL.quo rfl rfl rfl rfl rfl (by decide) ?_))
  refine RL.buildS [_, _, _, _] Try.zeroValue36 pl_36 rfl rfl rfl rfl rfl (RL.buildS ((plainC seed gone).cells (.slice none 0 0)) Try.zeroValue38 pl_38 rfl rfl rfl rfl rfl (RL.alloc Try.zeroValue38 rfl rfl rfl rfl rfl ?_))
  intro b2
  refine RL.storeW Try.sizeOf38 rfl rfl rfl rfl rfl rfl rfl (cf_ones _ rfl) (by repeat (first | exact Upd.here | apply Upd.there)) (hl45 _) rfl ?_
  refine RL.nil (NQ.seq (CW.ok [0, 1, 4, 5, 6] rfl (CW.seq (CW.region (ef := [0]) (bk := []) (RL.buildSlice [_, _, _, _, _, _] Try.runUnderlying22 Try.sizeOf3 Try.zeroValue3 rfl rfl (by decide) (by decide) rfl rfl rfl rfl rfl rfl ?_)))))
  intro b3
  refine RL.p rfl (RL.nil (NQ.seq (CW.seq (CW.seq (CW.rg (RL.p rfl (RL.nil (NQ.seq (CW.block (CW.freezeP (A := [cel b3 [.int .i64 1, .int .i64 2, .int .i64 3, .int .i64 4, .int .i64 5, .int .i64 8] 3]) (B := [cel b2 ((plainC seed gone).cells (.slice none 0 0)) 38, cel b1 (zeroC.cells (.slice none 0 0)) 38]) (by repeat (first | exact Pick.nil | apply Pick.take | apply Pick.leave)) rfl ?_))))))))))
  refine CW.genI (fun J hJ => ?_)
  have m2 : sls p 1 gone.length (ints gone) ∈ J := hJ _ (List.Mem.tail _ (List.Mem.head _))
  have m3 : cel b3 [.int .i64 1, .int .i64 2, .int .i64 3, .int .i64 4, .int .i64 5, .int .i64 8] 3 ∈ J := hJ _ (List.Mem.head _)
  clear hJ
  refine CW.ownNone (e := 46) 48 ?_
  refine CW.loop (γ := Nat × Option Nat × Nat × Nat) (fun g => g.1 ≤ 6 ∧ g.2.2.2 = (plainL seed gone g.1).length) (fun g => [(0, U8 seed), (1, .slice p gone.length c), (4, .pointer (some ⟨b1, 0, none⟩)), (5, .int .i64 4294967296), (6, .pointer (some ⟨b2, 0, none⟩)), (7, .slice (some ⟨b3, 0, none⟩) 6 6), (8, .int .i64 (g.1 : Int))]) (fun _ => J)
    (fun g => [cel b2 ((plainC seed gone).cells (slO g.2.1 g.2.2.2 g.2.2.1)) 38, own g.2.1 g.2.2.1 46 48 g.2.2.2 ((plainL seed gone g.1).flatMap Sr.cells), cel b1 (zeroC.cells (.slice none 0 0)) 38]) (fun g => 6 - g.1) (0, none, 0, 0) ⟨Nat.zero_le _, rfl⟩ (.cons rfl (.cons rfl (.cons rfl (.cons rfl (.cons rfl (.cons rfl (.cons rfl .nil))))))) (fun w h => h.rea (fun _ h => h) (by repeat (first | exact Rea.nil | (apply Rea.cons; (solve | (repeat (first | exact Del.here | apply Del.there))))))) ?_
  rintro ⟨i, ob, cp, n⟩ ⟨hi, hn⟩
  dsimp only at hi hn ⊢
  have hnb : n ≤ 6 := by rw [hn]; exact Nat.le_trans (plainL_len _ _ _) hi
  refine CW.seq (CW.seq (CW.rg (RL.p rfl (RL.p rfl (RL.nil (NQ.seq ?_))))))
  refine CW.cond rfl (fun hlt => ?_) (fun hlt => ?_)
  ·
    have hlt : i < 6 := by simp at hlt; omega
    have hr := rootB_len seed (i : Int)
    have hlen : ∀ s : Sr, s.rt = rootB seed (i : Int) → s.cells.length = 48 := fun s h => sr_len (by rw [h]; exact hr)
    have fK : RdI J ⟨b3, 0 + i * 1, none⟩ (.int .i64 (kindN i)) := ⟨fun _ => Rd.getI m3 (kindN_at hlt)⟩
    refine CW.skip (NQ.seq (CW.seq (CW.block (CW.seq (CW.rg (RL.p rfl (RL.nil (NQ.seq (CW.seq (CW.seq (CW.rg (RL.p rfl (RL.nil ?_)))))))))))))
    refine NQ.seq (CW.block ?_)
    refine CW.loop (γ := Nat) (fun k => k ≤ gone.length) (fun k => [(0, U8 seed), (1, .slice p gone.length c), (4, .pointer (some ⟨b1, 0, none⟩)), (5, .int .i64 4294967296), (6, .pointer (some ⟨b2, 0, none⟩)), (7, .slice (some ⟨b3, 0, none⟩) 6 6), (8, .int .i64 (i : Int)), (9, .bool ((gone.take k).contains (i : Int))), (10, .int .i64 (k : Int))]) (fun _ => J)
      (fun _ => [cel b2 ((plainC seed gone).cells (slO ob n cp)) 38, own ob cp 46 48 n ((plainL seed gone i).flatMap Sr.cells), cel b1 (zeroC.cells (.slice none 0 0)) 38]) (fun k => gone.length - k) 0 (Nat.zero_le _) (.cons rfl (.cons rfl (.cons rfl (.cons rfl (.cons rfl (.cons rfl (.cons rfl (.cons rfl (.cons rfl .nil))))))))) (fun w h => h.rea (fun _ h => h) (by repeat (first | exact Rea.nil | (apply Rea.cons; (solve | (repeat (first | exact Del.here | apply Del.there))))))) ?_
    intro k hk
    refine CW.fact (p := p = none → gone.length = 0) (fun w hC e => sls_nil (hC.s.i _ m2) e) (fun hpa => ?_)
    refine CW.seq (CW.seq (CW.rg (RL.p rfl (RL.p rfl (RL.lenS Try.runUnderlying22 rfl rfl rfl rfl (RL.p rfl (RL.nil (NQ.seq ?_))))))))
    refine CW.cond rfl (fun hkl => ?_) (fun hkl => ?_)
    ·
      have hkl : k < gone.length := by simp at hkl; omega
      cases p with
      | none => exact absurd (hpa rfl) (by omega)
      | some a =>
      have hx := List.getElem?_eq_getElem hkl
      generalize gone[k] = x at hx
      have f1 := RdI.sls m2 hx
      have hht := has_take (n := (i : Int)) hx
      refine CW.skip (NQ.seq (CW.seq (CW.block (CW.rg (RL.p rfl (RL.p rfl ?_))))))
      apply RL.orB (d := 31) (dp := 38) (l' := (Sq.of [9])) rfl (sK [0, 1, 4, 5, 6, 7, 8, 9, 10] rfl)
      ·
        intro hb2 K2
        refine RL.p rfl (RL.p rfl ?_)
        first | refine RL.idxAt (j := k) Try.runUnderlying22 Try.sizeOf3 rfl rfl rfl rfl rfl rfl (hkl) ?_ | refine RL.idx (j := k) Try.runUnderlying22 Try.sizeOf3 rfl rfl rfl rfl rfl rfl (hkl) ?_
        refine RL.loadq Try.isAgg3 rfl rfl rfl rfl ?_
        refine RL.p rfl (RL.p rfl (RL.p rfl ?_))
        exact K2 _ (.cons rfl (sK [0, 1, 4, 5, 6, 7, 8, 9, 10] rfl))
      ·
        intro hb2 K2
        refine RL.p rfl (RL.p rfl (RL.p rfl (RL.p rfl (RL.p rfl (RL.p rfl (RL.p rfl ?_))))))
        exact K2 _ (.cons rfl (sK [0, 1, 4, 5, 6, 7, 8, 9, 10] rfl))
      refine RL.p rfl (RL.nil (NQ.block (NQ.seq (CW.rg (RL.p rfl (RL.bx rfl (wrapV_i64 (by omega) (by omega)) ?_))))))
      refine RL.p rfl (RL.nil ?_)
      refine NQ.round (g := k) (k + 1) hkl (by show gone.length - (k + 1) < gone.length - k; omega) (.cons rfl (.cons rfl (.cons rfl (.cons rfl (.cons rfl (.cons rfl (.cons rfl (.cons (by rw [← hht]; rfl) (.cons rfl .nil))))))))) (fun w h => h.rea (fun _ h => h) (by repeat (first | exact Rea.nil | (apply Rea.cons; (solve | (repeat (first | exact Del.here | apply Del.there)))))))
    ·
      have hkn : k = gone.length := by simp at hkl; omega
      subst hkn
      rw [List.take_length]
      refine CW.exit (XQ.seq (XQ.seq (XQ.hit (NQ.seq (CW.seq (CW.seq (CW.rg (RL.p rfl (RL.nil (NQ.seq (CW.ok [0, 1, 4, 5, 6, 7, 8, 39] rfl ?_)))))))))))
      refine CW.cond rfl (fun hg => ?_) (fun hg => ?_)
      ·
        refine CW.exit (XQ.seq (XQ.hit (NQ.seq (CW.rg (RL.p rfl (RL.bx rfl (wrapV_i64 (by omega) (by omega)) ?_))))))
        refine RL.p rfl (RL.nil ?_)
        have hsn := plainL_yes (seed := seed) hg
        refine NQ.round (g := (i, ob, cp, n)) (i + 1, ob, cp, n) ⟨hlt, by rw [hsn, hn]⟩ (by show 6 - (i + 1) < 6 - i; omega) (.cons rfl (.cons rfl (.cons rfl (.cons rfl (.cons rfl (.cons rfl (.cons rfl .nil))))))) (fun w h => by rw [hsn]; exact h.rea (fun _ h => h) (by repeat (first | exact Rea.nil | (apply Rea.cons; (solve | (repeat (first | exact Del.here | apply Del.there)))))))
      ·
        have hsn := plainL_no (seed := seed) hg
        refine CW.skip (NQ.seq (CW.seq (CW.region (ef := [10, 11]) (bk := [11]) (RL.p rfl (RL.p rfl (RL.p rfl ?_))))))
        first | refine RL.idxAt (j := i) Try.runUnderlying22 Try.sizeOf3 rfl rfl rfl rfl rfl rfl (hlt) ?_ | refine RL.idx (j := i) Try.runUnderlying22 Try.sizeOf3 rfl rfl rfl rfl rfl rfl (hlt) ?_
        refine RL.loadq Try.isAgg3 rfl rfl rfl rfl ?_
        refine RL.p rfl (RL.p rfl (RL.lowest Try.runUnderlying3 Try.runUnderlying5 rfl rfl rfl rfl (RL.buildA (bytes (rootB seed (i : Int))) Try.zeroValue30 Try.runUnderlying30 Try.sizeOf5 rfl rfl rfl rfl rfl (RL.buildS (noS seed (i : Int) (kindN i)).cells Try.zeroValue46 pl_46 rfl rfl rfl rfl rfl (RL.alloc Try.zeroValue46 rfl rfl rfl rfl rfl ?_)))))
        intro b4
        refine RL.storeW Try.sizeOf46 rfl rfl rfl rfl rfl rfl rfl (sr_ones _) (by repeat (first | exact Upd.here | apply Upd.there)) rfl rfl ?_
        refine RL.nil (NQ.seq (CW.ok [0, 1, 4, 5, 6, 7, 8, 11] rfl (CW.seq (CW.seq (CW.rg ?_)))))
        first | refine RL.fieldAddr fa_46_1 rfl rfl rfl rfl ?_ | refine RL.fieldAddrG fa_46_1 rfl rfl rfl rfl ?_
        refine RL.load Try.isAgg3 rfl rfl rfl rfl (Rd.cel (by repeat (first | exact List.Mem.head _ | apply List.Mem.tail)) rfl) ?_
        refine RL.callvq (raid_any (kindN i)) Try.call41 rfl rfl rfl rfl ?_
        refine RL.nil (NQ.seq ?_)
        refine CW.cutG (γ := Unit) (fun _ => True) (fun _ => [(0, U8 seed), (1, .slice p gone.length c), (4, .pointer (some ⟨b1, 0, none⟩)), (5, .int .i64 4294967296), (6, .pointer (some ⟨b2, 0, none⟩)), (7, .slice (some ⟨b3, 0, none⟩) 6 6), (8, .int .i64 (i : Int)), (11, .pointer (some ⟨b4, 0, none⟩))]) (fun _ => J)
          (fun _ => [cel b2 ((plainC seed gone).cells (slO ob n cp)) 38, own ob cp 46 48 n ((plainL seed gone i).flatMap Sr.cells), cel b1 (zeroC.cells (.slice none 0 0)) 38, cel b4 (halfS seed (i : Int) (kindN i)).cells 46]) ?_ ?_
        ·
          refine CW.cond rfl (fun ha => ?_) (fun ha => ?_)
          ·
            refine CW.seq (CW.region (ef := [2, 4, 6, 8]) (bk := [2, 4, 6, 8]) (RL.p rfl ?_))
            first | refine RL.fieldAddr fa_46_3 rfl rfl rfl rfl ?_ | refine RL.fieldAddrG fa_46_3 rfl rfl rfl rfl ?_
            refine RL.storeX (vs := [_]) (show spl (Sr.cells ⟨(i : Int), kindN i, rootB seed (i : Int), 0, 0, 0, 0, ⟨0, 0, 0, 0, 0, 0, 0, 0, 0, 0⟩⟩) (0 + 34) [.int .i64 1] = Sr.cells ⟨(i : Int), kindN i, rootB seed (i : Int), 1, 0, 0, 0, ⟨0, 0, 0, 0, 0, 0, 0, 0, 0, 0⟩⟩ from set_w hr _) Try.sizeOf3 rfl rfl rfl rfl rfl rfl rfl rfl (by repeat (first | exact Upd.here | apply Upd.there)) (by rw [hlen _ rfl]; decide) ?_
            first | refine RL.fieldAddr fa_46_4 rfl rfl rfl rfl ?_ | refine RL.fieldAddrG fa_46_4 rfl rfl rfl rfl ?_
            refine RL.storeX (vs := [_]) (show spl (Sr.cells ⟨(i : Int), kindN i, rootB seed (i : Int), 1, 0, 0, 0, ⟨0, 0, 0, 0, 0, 0, 0, 0, 0, 0⟩⟩) (0 + 35) [.int .i64 2] = Sr.cells ⟨(i : Int), kindN i, rootB seed (i : Int), 1, 2, 0, 0, ⟨0, 0, 0, 0, 0, 0, 0, 0, 0, 0⟩⟩ from set_g hr _) Try.sizeOf3 rfl rfl rfl rfl rfl rfl rfl rfl (by repeat (first | exact Upd.here | apply Upd.there)) (by rw [hlen _ rfl]; decide) ?_
            first | refine RL.fieldAddr fa_46_5 rfl rfl rfl rfl ?_ | refine RL.fieldAddrG fa_46_5 rfl rfl rfl rfl ?_
            refine RL.storeX (vs := [_]) (show spl (Sr.cells ⟨(i : Int), kindN i, rootB seed (i : Int), 1, 2, 0, 0, ⟨0, 0, 0, 0, 0, 0, 0, 0, 0, 0⟩⟩) (0 + 36) [.int .i64 4294967296] = Sr.cells ⟨(i : Int), kindN i, rootB seed (i : Int), 1, 2, 4294967296, 0, ⟨0, 0, 0, 0, 0, 0, 0, 0, 0, 0⟩⟩ from set_st hr _) Try.sizeOf24 rfl rfl rfl rfl rfl rfl rfl rfl (by repeat (first | exact Upd.here | apply Upd.there)) (by rw [hlen _ rfl]; decide) ?_
            first | refine RL.fieldAddr fa_46_6 rfl rfl rfl rfl ?_ | refine RL.fieldAddrG fa_46_6 rfl rfl rfl rfl ?_
            refine RL.storeX (vs := [_]) (show spl (Sr.cells ⟨(i : Int), kindN i, rootB seed (i : Int), 1, 2, 4294967296, 0, ⟨0, 0, 0, 0, 0, 0, 0, 0, 0, 0⟩⟩) (0 + 37) [.int .i64 200] = Sr.cells ⟨(i : Int), kindN i, rootB seed (i : Int), 1, 2, 4294967296, 200, ⟨0, 0, 0, 0, 0, 0, 0, 0, 0, 0⟩⟩ from set_hz hr _) Try.sizeOf3 rfl rfl rfl rfl rfl rfl rfl rfl (by repeat (first | exact Upd.here | apply Upd.there)) (by rw [hlen _ rfl]; decide) ?_
            refine RL.nil (NQ.seq (CW.ok [0, 1, 4, 5, 6, 7, 8, 11] rfl (CW.region (ef := [15]) (bk := [15]) (RL.p rfl (RL.bx rfl (wrapV_i64 (by omega) (by omega)) ?_)))))
            refine RL.p rfl (RL.quo rfl rfl rfl rfl rfl (by decide) ?_)
            refine RL.p rfl (RL.bx rfl (wrapV_i64 (by omega) (by omega)) ?_)
            refine RL.buildS [_, _, _] Try.zeroValue42 pl_42 rfl rfl rfl rfl rfl (RL.p rfl (RL.quo rfl rfl rfl rfl rfl (by decide) ?_))
            refine RL.p rfl (RL.bx rfl (wrapV_i64 (by omega) (by omega)) ?_)
            refine RL.p rfl (RL.bx rfl (wrapV_i64 (by omega) (by omega)) ?_)
            refine RL.buildS [_, _, _, _, _, _, _, _, _, _] Try.zeroValue44 pl_44 rfl rfl rfl rfl rfl ?_
            first | refine RL.fieldAddr fa_46_7 rfl rfl rfl rfl ?_ | refine RL.fieldAddrG fa_46_7 rfl rfl rfl rfl ?_
            refine RL.storeX (vs := Wt.cells ⟨34359738368, 268435456, 274877906944, 1073741824, 137438953472, 50, 17179869184, 3, 300, 5⟩) (show spl (Sr.cells ⟨(i : Int), kindN i, rootB seed (i : Int), 1, 2, 4294967296, 200, ⟨0, 0, 0, 0, 0, 0, 0, 0, 0, 0⟩⟩) (0 + 38) (Wt.cells ⟨34359738368, 268435456, 274877906944, 1073741824, 137438953472, 50, 17179869184, 3, 300, 5⟩) = Sr.cells ⟨(i : Int), kindN i, rootB seed (i : Int), 1, 2, 4294967296, 200, ⟨34359738368, 268435456, 274877906944, 1073741824, 137438953472, 50, 17179869184, 3, 300, 5⟩⟩ from set_wt hr _) Try.sizeOf44 rfl rfl rfl rfl rfl rfl rfl rfl (by repeat (first | exact Upd.here | apply Upd.there)) (by rw [hlen _ rfl]; decide) ?_
            refine RL.nil ?_
            have e : aidS seed (i : Int) (kindN i) = halfS seed (i : Int) (kindN i) := by rw [halfS, if_pos ha]
            exact NQ.midG () trivial (.cons rfl (.cons rfl (.cons rfl (.cons rfl (.cons rfl (.cons rfl (.cons rfl (.cons rfl .nil)))))))) (fun w h => by rw [← e]; exact h.rea (fun _ h => h) (by repeat (first | exact Rea.nil | (apply Rea.cons; (solve | (repeat (first | exact Del.here | apply Del.there)))))))
          ·
            refine CW.skip ?_
            have e : noS seed (i : Int) (kindN i) = halfS seed (i : Int) (kindN i) := by rw [halfS, if_neg (by rw [ha]; decide)]
            exact NQ.midG () trivial (.cons rfl (.cons rfl (.cons rfl (.cons rfl (.cons rfl (.cons rfl (.cons rfl (.cons rfl .nil)))))))) (fun w h => by rw [← e]; exact h.rea (fun _ h => h) (by repeat (first | exact Rea.nil | (apply Rea.cons; (solve | (repeat (first | exact Del.here | apply Del.there)))))))
        rintro ⟨⟩ -
        have hkd := halfS_kd seed (i : Int) (kindN i)
        have hk1 : (halfS seed (i : Int) (kindN i)).cells[0 + 1]? = some (.int .i64 (kindN i)) := by
          have h0 : ∀ s : Sr, s.cells[0 + 1]? = some (.int .i64 s.kd) := fun _ => rfl
          rw [h0, hkd]
        refine CW.seq (CW.seq (CW.rg ?_))
        first | refine RL.fieldAddr fa_46_1 rfl rfl rfl rfl ?_ | refine RL.fieldAddrG fa_46_1 rfl rfl rfl rfl ?_
        refine RL.load Try.isAgg3 rfl rfl rfl rfl (Rd.get (by repeat (first | exact List.Mem.head _ | apply List.Mem.tail)) hk1) ?_
        refine RL.p rfl (RL.nil (NQ.seq ?_))
        refine CW.cutG (γ := Unit) (fun _ => True) (fun _ => [(0, U8 seed), (1, .slice p gone.length c), (4, .pointer (some ⟨b1, 0, none⟩)), (5, .int .i64 4294967296), (6, .pointer (some ⟨b2, 0, none⟩)), (7, .slice (some ⟨b3, 0, none⟩) 6 6), (8, .int .i64 (i : Int)), (11, .pointer (some ⟨b4, 0, none⟩))]) (fun _ => J)
          (fun _ => [cel b2 ((plainC seed gone).cells (slO ob n cp)) 38, own ob cp 46 48 n ((plainL seed gone i).flatMap Sr.cells), cel b1 (zeroC.cells (.slice none 0 0)) 38, cel b4 (plainS seed (i : Int) (kindN i)).cells 46]) ?_ ?_
        ·
          refine CW.cond rfl (fun ha => ?_) (fun ha => ?_)
          ·
            have ha : kindN i = 3 := by simpa using ha
            have hb3 : aidB (kindN i) = true := by rw [ha]; rfl
            rw [show halfS seed (i : Int) (kindN i) = aidS seed (i : Int) (kindN i) by rw [halfS, if_pos hb3]]
            refine CW.seq (CW.region (ef := [1]) (bk := [1]) ?_)
            first | refine RL.fieldAddr fa_46_5 rfl rfl rfl rfl ?_ | refine RL.fieldAddrG fa_46_5 rfl rfl rfl rfl ?_
            refine RL.storeX (vs := [_]) (show spl (Sr.cells ⟨(i : Int), kindN i, rootB seed (i : Int), 1, 2, 4294967296, 200, ⟨34359738368, 268435456, 274877906944, 1073741824, 137438953472, 50, 17179869184, 3, 300, 5⟩⟩) (0 + 36) [.int .i64 67108864] = Sr.cells ⟨(i : Int), kindN i, rootB seed (i : Int), 1, 2, 67108864, 200, ⟨34359738368, 268435456, 274877906944, 1073741824, 137438953472, 50, 17179869184, 3, 300, 5⟩⟩ from set_st hr _) Try.sizeOf24 rfl rfl rfl rfl rfl rfl rfl rfl (by repeat (first | exact Upd.here | apply Upd.there)) (by rw [hlen _ rfl]; decide) ?_
            refine RL.nil (NQ.seq (CW.region (ef := [3, 6, 9, 12]) (bk := [3, 6, 9, 12]) (RL.buildS [_, _, _] Try.zeroValue42 pl_42 rfl rfl rfl rfl rfl ?_)))
            first | refine RL.fieldAddr fa_46_7 rfl rfl rfl rfl ?_ | refine RL.fieldAddrG fa_46_7 rfl rfl rfl rfl ?_
            first | refine RL.fieldAddr fa_44_0 rfl rfl rfl rfl ?_ | refine RL.fieldAddrG fa_44_0 rfl rfl rfl rfl ?_
            refine RL.storeX (vs := [_, _, _]) (show spl (Sr.cells ⟨(i : Int), kindN i, rootB seed (i : Int), 1, 2, 67108864, 200, ⟨34359738368, 268435456, 274877906944, 1073741824, 137438953472, 50, 17179869184, 3, 300, 5⟩⟩) (0 + 38 + 0) [.int .i64 268435456, .int .i64 1048576, .int .i64 1073741824] = Sr.cells ⟨(i : Int), kindN i, rootB seed (i : Int), 1, 2, 67108864, 200, ⟨268435456, 1048576, 1073741824, 1073741824, 137438953472, 50, 17179869184, 3, 300, 5⟩⟩ from set_gate hr _ _ _) Try.sizeOf42 rfl rfl rfl rfl rfl rfl rfl rfl (by repeat (first | exact Upd.here | apply Upd.there)) (by rw [hlen _ rfl]; decide) ?_
            first | refine RL.fieldAddr fa_46_7 rfl rfl rfl rfl ?_ | refine RL.fieldAddrG fa_46_7 rfl rfl rfl rfl ?_
            first | refine RL.fieldAddr fa_44_1 rfl rfl rfl rfl ?_ | refine RL.fieldAddrG fa_44_1 rfl rfl rfl rfl ?_
            refine RL.storeX (vs := [_]) (show spl (Sr.cells ⟨(i : Int), kindN i, rootB seed (i : Int), 1, 2, 67108864, 200, ⟨268435456, 1048576, 1073741824, 1073741824, 137438953472, 50, 17179869184, 3, 300, 5⟩⟩) (0 + 38 + 3) [.int .i64 16777216] = Sr.cells ⟨(i : Int), kindN i, rootB seed (i : Int), 1, 2, 67108864, 200, ⟨268435456, 1048576, 1073741824, 16777216, 137438953472, 50, 17179869184, 3, 300, 5⟩⟩ from set_sl hr _) Try.sizeOf24 rfl rfl rfl rfl rfl rfl rfl rfl (by repeat (first | exact Upd.here | apply Upd.there)) (by rw [hlen _ rfl]; decide) ?_
            first | refine RL.fieldAddr fa_46_7 rfl rfl rfl rfl ?_ | refine RL.fieldAddrG fa_46_7 rfl rfl rfl rfl ?_
            first | refine RL.fieldAddr fa_44_2 rfl rfl rfl rfl ?_ | refine RL.fieldAddrG fa_44_2 rfl rfl rfl rfl ?_
            refine RL.storeX (vs := [_]) (show spl (Sr.cells ⟨(i : Int), kindN i, rootB seed (i : Int), 1, 2, 67108864, 200, ⟨268435456, 1048576, 1073741824, 16777216, 137438953472, 50, 17179869184, 3, 300, 5⟩⟩) (0 + 38 + 4) [.int .i64 1073741824] = Sr.cells ⟨(i : Int), kindN i, rootB seed (i : Int), 1, 2, 67108864, 200, ⟨268435456, 1048576, 1073741824, 16777216, 1073741824, 50, 17179869184, 3, 300, 5⟩⟩ from set_mo hr _) Try.sizeOf24 rfl rfl rfl rfl rfl rfl rfl rfl (by repeat (first | exact Upd.here | apply Upd.there)) (by rw [hlen _ rfl]; decide) ?_
            first | refine RL.fieldAddr fa_46_7 rfl rfl rfl rfl ?_ | refine RL.fieldAddrG fa_46_7 rfl rfl rfl rfl ?_
            first | refine RL.fieldAddr fa_44_4 rfl rfl rfl rfl ?_ | refine RL.fieldAddrG fa_44_4 rfl rfl rfl rfl ?_
            refine RL.storeX (vs := [_]) (show spl (Sr.cells ⟨(i : Int), kindN i, rootB seed (i : Int), 1, 2, 67108864, 200, ⟨268435456, 1048576, 1073741824, 16777216, 1073741824, 50, 17179869184, 3, 300, 5⟩⟩) (0 + 38 + 6) [.int .i64 2147483648] = Sr.cells ⟨(i : Int), kindN i, rootB seed (i : Int), 1, 2, 67108864, 200, ⟨268435456, 1048576, 1073741824, 16777216, 1073741824, 50, 2147483648, 3, 300, 5⟩⟩ from set_ra hr _) Try.sizeOf24 rfl rfl rfl rfl rfl rfl rfl rfl (by repeat (first | exact Upd.here | apply Upd.there)) (by rw [hlen _ rfl]; decide) ?_
            refine RL.nil ?_
            have e : magS seed (i : Int) (kindN i) = plainS seed (i : Int) (kindN i) := by rw [plainS, if_pos hb3, if_pos ha]
            exact NQ.midG () trivial (.cons rfl (.cons rfl (.cons rfl (.cons rfl (.cons rfl (.cons rfl (.cons rfl (.cons rfl .nil)))))))) (fun w h => by rw [← e]; exact h.rea (fun _ h => h) (by repeat (first | exact Rea.nil | (apply Rea.cons; (solve | (repeat (first | exact Del.here | apply Del.there)))))))
          ·
            refine CW.skip ?_
            have ha : ¬ kindN i = 3 := by simpa using ha
            have e : halfS seed (i : Int) (kindN i) = plainS seed (i : Int) (kindN i) := by rw [plainS, if_neg ha, halfS]
            exact NQ.midG () trivial (.cons rfl (.cons rfl (.cons rfl (.cons rfl (.cons rfl (.cons rfl (.cons rfl (.cons rfl .nil)))))))) (fun w h => by rw [← e]; exact h.rea (fun _ h => h) (by repeat (first | exact Rea.nil | (apply Rea.cons; (solve | (repeat (first | exact Del.here | apply Del.there)))))))
        rintro ⟨⟩ -
        have hsl := plainS_len seed (i : Int) (kindN i)
        refine CW.region (ef := [3, 4, 6]) (bk := [4, 6]) ?_
        first | refine RL.fieldAddr fa_38_0 rfl rfl rfl rfl ?_ | refine RL.fieldAddrG fa_38_0 rfl rfl rfl rfl ?_
        refine RL.load Try.isAgg35 rfl rfl rfl rfl (Rd.cel (by repeat (first | exact List.Mem.head _ | apply List.Mem.tail)) rfl) ?_
        refine RL.loadW Try.isAgg46 Try.sizeOf46 rfl rfl rfl rfl (by repeat (first | exact List.Mem.head _ | apply List.Mem.tail)) hsl ?_
        refine RL.buildSlice (plainS seed (i : Int) (kindN i)).cells Try.runUnderlying35 Try.sizeOf46 Try.zeroValue46 rfl rfl (by decide) (by decide) rfl rfl rfl rfl rfl (fill_one48 hsl rfl) ?_
        intro b5
        refine RL.appendA el_35 rfl rfl rfl rfl rfl rfl rfl (by first | exact ⟨(.take (Pick.none _)), rfl⟩ | exact ⟨(.leave (.take (Pick.none _))), rfl⟩ | exact ⟨(.leave (.leave (.take (Pick.none _)))), rfl⟩ | exact ⟨(.leave (.leave (.leave (.take (Pick.none _))))), rfl⟩ | exact ⟨(.leave (.leave (.leave (.leave (.take (Pick.none _)))))), rfl⟩ | exact ⟨(.leave (.leave (.leave (.leave (.leave (.take (Pick.none _))))))), rfl⟩ | exact ⟨(.leave (.leave (.leave (.leave (.leave (.leave (.take (Pick.none _)))))))), rfl⟩ | exact ⟨(.leave (.leave (.leave (.leave (.leave (.leave (.leave (.take (Pick.none _))))))))), rfl⟩ | exact ⟨(.leave (.leave (.leave (.leave (.leave (.leave (.leave (.leave (.take (Pick.none _)))))))))), rfl⟩ | exact ⟨(.leave (.leave (.leave (.leave (.leave (.leave (.leave (.leave (.leave (.take (Pick.none _))))))))))), rfl⟩) (Src.cel (cs := (plainS seed (i : Int) (kindN i)).cells) (by repeat (first | exact List.Mem.head _ | apply List.Mem.tail)) hsl) (ones_spec (sr_ones _)) (by first | omega | (simp only [maxLen]; omega)) (by first | omega | (simp only [maxLen]; omega)) ?_
        intro ob1 cap1 ho1
        first | refine RL.fieldAddr fa_38_0 rfl rfl rfl rfl ?_ | refine RL.fieldAddrG fa_38_0 rfl rfl rfl rfl ?_
        refine RL.storeX (vs := [_]) cf_set Try.sizeOf35 rfl rfl rfl rfl rfl rfl rfl rfl (by repeat (first | exact Upd.here | apply Upd.there)) (by rw [hl45]; show 0 + 0 + 1 ≤ 45; decide) ?_
        refine RL.nil (NQ.block (NQ.seq (CW.ok [0, 1, 4, 5, 6, 7, 8] rfl (CW.rg (RL.p rfl (RL.bx rfl (wrapV_i64 (by omega) (by omega)) ?_))))))
        refine RL.p rfl (RL.nil ?_)
        refine NQ.round (g := (i, ob, cp, n)) (i + 1, ob1, cap1, n + 1) ⟨hlt, by rw [hsn]; simp [hn]⟩ (by show 6 - (i + 1) < 6 - i; omega) (.cons rfl (.cons rfl (.cons rfl (.cons rfl (.cons rfl (.cons rfl (.cons rfl .nil))))))) (fun w h => h.rea (H' := [cel b2 ((plainC seed gone).cells (slO ob1 (n + 1) cap1)) 38, own ob1 cap1 46 48 (n + 1) ((plainL seed gone (i + 1)).flatMap Sr.cells), cel b1 (zeroC.cells (.slice none 0 0)) 38]) (fun _ h => h) (by rw [hsn, List.flatMap_append, List.flatMap_cons, List.flatMap_nil, List.append_nil]; exact (by repeat (first | exact Rea.nil | (apply Rea.cons; (solve | (repeat (first | exact Del.here | apply Del.there))))))))
  ·
    have hin : i = 6 := by simp at hlt; omega
    subst hin
    refine CW.exit (XQ.seq (XQ.seq (XQ.hit (NQ.seq (CW.ok [4, 6] rfl (CW.seq (CW.region (ef := [1]) (bk := [1]) (RL.loadW Try.isAgg38 Try.sizeOf38 rfl rfl rfl rfl (by repeat (first | exact List.Mem.head _ | apply List.Mem.tail)) (hl45 _) ?_))))))))
    refine RL.storeW Try.sizeOf38 rfl rfl rfl rfl rfl rfl rfl (cf_ones _ rfl) (by repeat (first | exact Upd.here | apply Upd.there)) (hl45 _) rfl ?_
    refine RL.nil (NQ.seq (CW.ret ?_))
    subst hn
    refine RQ.rea (fun _ h => h) (H' := [own ob cp 46 48 (plainC seed gone).L.length ((plainC seed gone).L.flatMap Sr.cells), cel b1 ((plainC seed gone).cells (slO ob (plainC seed gone).L.length cp)) 38]) (by repeat (first | exact Rea.nil | (apply Rea.cons; (solve | (repeat (first | exact Del.here | apply Del.there)))))) ?_
    exact RQ.post (resW rfl rfl Try.isAgg38 Try.sizeOf38 (by repeat (first | exact List.Mem.head _ | apply List.Mem.tail)) (hl45 _)) (.keep (Split.none _)) ⟨ob, cp, rfl, rfl, rfl⟩
end Go.Proofs.Ytbdnebedmdoehaa
