import Derived.Test.YthndhipjfdgdfaaGreatDoorLA
import Derived.Test.YthndhipjfdgdfaaGreatDoorPE
import Derived.Test.YthndhipjfdgdfaaGreatDoorXA
set_option linter.unusedVariables false
set_option linter.unusedSimpArgs false
namespace Go.Proofs.YthndhipjfdgdfaaGreatDoor
open Go.PK
/-! ### A line -/
def znI (z : ZO) : It := own z.2.1 z.2.2 80 2 z.1.L.length (z.1.L.flatMap Pt.cells)
/-- What a parser holds. -/
structure PM where
  P : Pl
  oa : Option Nat
  ca : Nat
  oz : Option Nat
  cz : Nat
  ZL : List ZO
  seen : List Tx
def PM.its (br mp : Nat) (z : PM) : List It := [cel br (psC z.P (slO z.oa z.P.cf.L.length z.ca) (slO z.oz z.P.zs.length z.cz) mp) 124, mapI mp goodT (mapS z.seen), own z.oa z.ca 98 48 z.P.cf.L.length (z.P.cf.L.flatMap Sr.cells), own z.oz z.cz 73 4 z.P.zs.length (z.ZL.flatMap znO), allI (z.ZL.map znI)]
structure PM.Ok (z : PM) : Prop where
  cm : z.P.cf.cm.length = 32
  zl : z.ZL.map (·.1) = z.P.zs
theorem Cls.pushA {w0 w : World} {S : List Nat} {I B l m : List It} {x : It} (hp : m.Perm (x :: l)) (h : Cls w0 S I (x :: PK.allI l :: B) w) : Cls w0 S I (PK.allI m :: B) w :=
  ((h.perm (List.Perm.swap _ _ _)).unpack.perm (List.perm_middle.trans (hp.symm.append_right B))).pack
theorem stepT_cons {P : Pl} {seen : List Tx} {s nm : Tx} {w : List Tx} (h : splL 32#8 s = nm :: w) : stepT (P, seen) s = match lineT P nm w with
    | none => none
    | some q => if nm ≠ nSource ∧ nm ≠ nZone ∧ nm ∈ seen then none else some (q, seen ++ [nm]) := by rw [stepT, h]; rfl
theorem ps_at0 (P : Pl) (sl zl : Value) (mp : Nat) : (psC P sl zl mp)[0 + 0 + 0 + 0]? = some sl := rfl
theorem ps_at45 {P : Pl} (h : P.cf.cm.length = 32) (sl zl : Value) (mp : Nat) : (psC P sl zl mp)[0 + 0 + 45]? = some zl := by
  rw [psC, List.getElem?_append_right (by rw [cf_len h]; decide), cf_len h]; rfl
theorem wsl_0 (bw n : Nat) : wsl ⟨bw, 0, none⟩ n 0 = .slice (some ⟨bw, 0, none⟩) n n := by
  rw [wsl, Nat.zero_min]; rfl
theorem mapS_no {nm : Tx} (h : isNm nm = false) (seen : List Tx) : mapS (seen ++ [nm]) = mapS seen := by
  rw [mapS, mapS, List.filter_append, List.filter_cons_of_neg (by rw [h]; decide)]; simp
theorem fill_one4 {k : Bool} {sl : Value} {f r : Int} (h : sl.oneCell' = true) : fillL (fun j => some (j * 4, 4)) (reps [.bool false, .slice none 0 0, .int .i64 0, .int .i64 0] 1) [(0, .agg (znC k sl f r).toArray)] = some (znC k sl f r) := rfl
theorem srcV_len (ws : List Tx) (x : Wd) : (srcV ws x).cells.length = 48 := sr_len (by
  rw [srcV]
  split <;> exact keyV_len _)
theorem oneV_keep {ws : List Tx} {P : Pl} {nm : Tx} {x : Wd} {q : Pl × Wd} (h : oneV ws P nm x = some q) : q.1.cf.L = P.cf.L ∧ q.1.zs = P.zs := by
  obtain ⟨⟨g0, g1, g2, dr, ⟨s0, s1, s2, s3⟩, cm, mo, ti, gr, sd, L⟩, zs, de, ra, m, sz⟩ := P
  rw [oneV] at h
  by_cases h0 : nm = nGravity
  · rw [if_pos h0] at h; rw [← Option.some.inj h]; exact ⟨rfl, rfl⟩
  by_cases h1 : nm = nDrift
  · rw [if_neg h0, if_pos h1] at h; rw [← Option.some.inj h]; exact ⟨rfl, rfl⟩
  by_cases h2 : nm = nSlot
  · rw [if_neg h0, if_neg h1, if_pos h2] at h; rw [← Option.some.inj h]; exact ⟨rfl, rfl⟩
  by_cases h3 : nm = nCommit
  · rw [if_neg h0, if_neg h1, if_neg h2, if_pos h3] at h; rw [← Option.some.inj h]; exact ⟨rfl, rfl⟩
  by_cases h4 : nm = nLock
  · rw [if_neg h0, if_neg h1, if_neg h2, if_neg h3, if_pos h4] at h; rw [← Option.some.inj h]; exact ⟨rfl, rfl⟩
  by_cases h5 : nm = nGrace
  · rw [if_neg h0, if_neg h1, if_neg h2, if_neg h3, if_neg h4, if_pos h5] at h; rw [← Option.some.inj h]; exact ⟨rfl, rfl⟩
  by_cases h6 : nm = nStride
  · rw [if_neg h0, if_neg h1, if_neg h2, if_neg h3, if_neg h4, if_neg h5, if_pos h6] at h; rw [← Option.some.inj h]; exact ⟨rfl, rfl⟩
  by_cases h7 : nm = nClock
  · rw [if_neg h0, if_neg h1, if_neg h2, if_neg h3, if_neg h4, if_neg h5, if_neg h6, if_pos h7] at h; rw [← Option.some.inj h]; exact ⟨rfl, rfl⟩
  by_cases h8 : nm = nTrace
  · rw [if_neg h0, if_neg h1, if_neg h2, if_neg h3, if_neg h4, if_neg h5, if_neg h6, if_neg h7, if_pos h8] at h; rw [← Option.some.inj h]; exact ⟨rfl, rfl⟩
  rw [if_neg h0, if_neg h1, if_neg h2, if_neg h3, if_neg h4, if_neg h5, if_neg h6, if_neg h7, if_neg h8] at h
  cases h
theorem oneV_le {ws : List Tx} {P : Pl} {nm : Tx} {x : Wd} {q : Pl × Wd} {n : Nat} (hn : ws.length = n) (hx : x.1 ≤ n) (h : oneV ws P nm x = some q) : q.2.1 ≤ n := by
  obtain ⟨⟨g0, g1, g2, dr, ⟨s0, s1, s2, s3⟩, cm, mo, ti, gr, sd, L⟩, zs, de, ra, m, sz⟩ := P
  have hk := nWk_le hn hx
  rw [oneV] at h
  by_cases h0 : nm = nGravity
  · rw [if_pos h0] at h; rw [← Option.some.inj h]; exact (hk _)
  by_cases h1 : nm = nDrift
  · rw [if_neg h0, if_pos h1] at h; rw [← Option.some.inj h]; exact (hk _)
  by_cases h2 : nm = nSlot
  · rw [if_neg h0, if_neg h1, if_pos h2] at h; rw [← Option.some.inj h]; exact (hk _)
  by_cases h3 : nm = nCommit
  · rw [if_neg h0, if_neg h1, if_neg h2, if_pos h3] at h; rw [← Option.some.inj h]; exact (by rw [← hn]; exact Nat.min_le_right _ _)
  by_cases h4 : nm = nLock
  · rw [if_neg h0, if_neg h1, if_neg h2, if_neg h3, if_pos h4] at h; rw [← Option.some.inj h]; exact (hk _)
  by_cases h5 : nm = nGrace
  · rw [if_neg h0, if_neg h1, if_neg h2, if_neg h3, if_neg h4, if_pos h5] at h; rw [← Option.some.inj h]; exact (hk _)
  by_cases h6 : nm = nStride
  · rw [if_neg h0, if_neg h1, if_neg h2, if_neg h3, if_neg h4, if_neg h5, if_pos h6] at h; rw [← Option.some.inj h]; exact (by rw [← hn]; exact Nat.min_le_right _ _)
  by_cases h7 : nm = nClock
  · rw [if_neg h0, if_neg h1, if_neg h2, if_neg h3, if_neg h4, if_neg h5, if_neg h6, if_pos h7] at h; rw [← Option.some.inj h]; exact (hk _)
  by_cases h8 : nm = nTrace
  · rw [if_neg h0, if_neg h1, if_neg h2, if_neg h3, if_neg h4, if_neg h5, if_neg h6, if_neg h7, if_pos h8] at h; rw [← Option.some.inj h]; exact (hk _)
  rw [if_neg h0, if_neg h1, if_neg h2, if_neg h3, if_neg h4, if_neg h5, if_neg h6, if_neg h7, if_neg h8] at h
  cases h
theorem zlp_le {ws : List Tx} {n : Nat} (hn : ws.length = n) : ∀ (f : Nat) (x : Wd) (L : List Pt), x.1 ≤ n → (zlp ws f x L).2.1 ≤ n
  | 0, _, _, h => h
  | f + 1, x, L, h => by
    rw [zlp]
    split
    · exact zlp_le hn f _ _ (nWk_le hn h 2)
    · exact h
theorem zonW_le {ws : List Tx} {n : Nat} {x : Wd} (hn : ws.length = n) (hx : x.1 ≤ n) : (zonW ws x).1 ≤ n := by
  refine zlp_le hn _ _ _ ?_
  unfold zonX
  split
  · exact nWk_le hn (tlW_le hn) 2
  · exact tlW_le hn
/-- What a line is. -/
def LnR (br mp : Nat) (z : PM) (s : Tx) : Value → List It → List It → Prop := fun v I' H' =>
  (stepT (z.P, z.seen) s = none ∧ v = .bool false ∧ I' = [] ∧ H' = []) ∨ ∃ z' : PM, stepT (z.P, z.seen) s = some (z'.P, z'.seen) ∧ z'.Ok ∧ v = .bool true ∧ I' = [] ∧ H' = z'.its br mp
theorem line_any (br mp : Nat) (z : PM) (hz : z.Ok) (s : Tx) (hs : s.length ≤ 70000) (hL : z.P.cf.L.length ≤ 1000000) (hZ : z.P.zs.length ≤ 1000000) :
    Spc Tryz.prog 46 #[.pointer (some ⟨br, 0, none⟩), strV s] [gvI] (z.its br mp) (LnR br mp z s) := by
  obtain ⟨P, oa, ca, oz, cz, ZL, seen⟩ := z
  obtain ⟨hcm, hzl⟩ := hz
  dsimp only at hL hZ hcm hzl
  dsimp only [PM.its]
  have hlen := splL_len (c := 32#8) s
  have hct : s.count 32#8 ≤ s.length := List.count_le_length
  have hwl : WLen (splL 32#8 s) := fun a ha => by
    have h1 := splL_sum (c := 32#8) s
    have h2 : a.length ≤ (splL 32#8 s).flatten.length := by
      obtain ⟨l1, l2, e⟩ := List.append_of_mem ha
      rw [e]; simp; omega
    omega
  refine Spc.enter Tryz.func46 rfl rfl rfl (fun w0 hw0 => ?_)
  refine CW.seq (CW.rg (RL.p rfl (RL.nil (NQ.seq (CW.seq (CW.region (ef := [1, 3]) (bk := [1]) (RL.p rfl (RL.callq (split_any 32#8 s (by omega)) Tryz.call18 rfl rfl rfl rfl rfl (.inr rfl) ?_))))))))
  rintro _ _ _ ⟨bw, rfl, rfl, rfl⟩
  obtain ⟨nm, w, hsp⟩ : ∃ nm w, splL 32#8 s = nm :: w := by
    cases h : splL 32#8 s with
    | nil => exact absurd h (splL_ne s)
    | cons nm w => exact ⟨nm, w, rfl⟩
  have hst := fun P' => stepT_cons (P := P') (seen := seen) hsp
  generalize hws : splL 32#8 s = ws at hlen hwl hsp ⊢
  generalize hn : ws.length = n at hlen ⊢
  have hn1 : 1 ≤ n := by omega
  have hnb : n ≤ 1000000 := by omega
  rw [← wsl_0]
  have hnx : nxW ws (0, true) = nm := by rw [hsp]; rfl
  have htl : tlW ws (0, true) = (1, true) := by
    show (min (0 + 1) ws.length, true && decide (0 < ws.length)) = _
    rw [hn, Nat.min_eq_left (by omega), decide_eq_true (by omega)]; rfl
  have hx1 : ((1, true) : Wd).1 ≤ n := hn1
  subst hsp
  refine RL.buildS [_, _] Tryz.zeroValue177 pl_177 rfl rfl rfl rfl rfl (RL.box rfl rfl rfl rfl rfl rfl ?_)
  intro b1
  refine RL.p rfl (RL.nil (NQ.seq (CW.ok [0, 5] rfl (CW.seq (CW.seq (CW.region (ef := [1]) (bk := [1]) (RL.p rfl (RL.callq (next_any b1 ⟨bw, 0, none⟩ n (nm :: w) (0, true) hn hn1 (Nat.zero_le _) hnb) Tryz.call77 rfl rfl rfl rfl rfl (.inr rfl) ?_))))))))
  rintro _ _ _ ⟨rfl, rfl, rfl⟩
  rw [hnx, htl]
  refine RL.p rfl (RL.nil (NQ.seq (CW.seq (CW.rg (RL.p rfl (RL.nil (NQ.seq ?_)))))))
  refine CW.cutR (γ := PM × Wd) (fun q => (stepT (P, seen) s = (if wEnd (nm :: w) q.2 = true then some (q.1.P, q.1.seen) else none) ∧ q.1.Ok) ∧ q.2.1 ≤ n) (fun _ => [(5, .pointer (some ⟨b1, 0, none⟩))]) (fun _ => [wsI ⟨bw, 0, none⟩ n (nm :: w), gvI]) (fun q => wdI b1 ⟨bw, 0, none⟩ n q.2 :: q.1.its br mp) ?_ ?_
  · obtain ⟨⟨g0, g1, g2, dr, sc, cm, mo, ti, gr, sd, L⟩, zs, de, ra, m, sz⟩ := P
    dsimp only at hcm hL hZ hzl ⊢
    refine CW.block (CW.seq (CW.rg (RL.cmp rfl rfl rfl rfl rfl (fun w' => eql_txt nm nSource w') ?_)))
    refine RL.p rfl (RL.nil (NQ.seq ?_))
    refine CW.cond rfl (fun hA => ?_) (fun hA => ?_)
    · have hA' : nm = nSource := by simpa using hA
      have hno : isNm nm = false := by rw [hA']; rfl
      have hsl := srcV_len (nm :: w) (1, true)
      have hfin : stepT (⟨⟨g0, g1, g2, dr, sc, cm, mo, ti, gr, sd, L⟩, zs, de, ra, m, sz⟩, seen) s = if wEnd (nm :: w) (srcW (nm :: w) (1, true)) = true then some (⟨⟨g0, g1, g2, dr, sc, cm, mo, ti, gr, sd, L ++ [srcV (nm :: w) (1, true)]⟩, zs, de, ra, m, sz⟩, seen ++ [nm]) else none := by
        rw [hst, lineT, if_pos hA', src_spec nm w]
        by_cases he : wEnd (nm :: w) (srcW (nm :: w) (1, true)) = true
        · rw [if_pos he, if_pos he]
          show (if nm ≠ nSource ∧ _ then none else _) = _
          rw [if_neg (fun h => h.1 hA')]
        · rw [if_neg he, if_neg he]
      have hle : (srcW (nm :: w) (1, true)).1 ≤ n := by
        have hk2 := nWk_le hn hx1 2
        have hk3 : (kW (nm :: w) (nWk (nm :: w) 2 (1, true))).1 ≤ n := by rw [← hn]; exact Nat.min_le_right _ _
        rw [srcW]
        split
        · exact nWk_le hn (nWk_le hn hk3 4) 10
        · exact hk3
      have hl1 : (L ++ [srcV (nm :: w) (1, true)]).length = L.length + 1 := by simp
      have hfl : L.flatMap Sr.cells ++ (srcV (nm :: w) (1, true)).cells = (L ++ [srcV (nm :: w) (1, true)]).flatMap Sr.cells := by rw [List.flatMap_append]; simp
      generalize hsv : srcV (nm :: w) (1, true) = sv at hsl hfin hl1 hfl ⊢
      refine CW.regionD (.cons 0 (.cons 1 (.cons 2 (.cons 3 (.cons 4 (.cons 5 (.cons 7 (.fork [6, 8] (fun k => (bif Nat.beq k 6 then (Sq.of [8, 9, 10, 11, 12, 13, 14, 15]) else (Sq.of [6, 9, 10, 11, 12, 13, 14, 15]))))))))))) [8, 9, 10, 15] [8, 10, 15] [0, 1, 2, 3, 4, 5, 7, 11, 12, 13, 14] mixed (by kernel_rfl) ?_
      refine RL.p rfl (RL.p rfl (RL.p rfl (RL.fieldAddr fa_124_0 rfl rfl rfl rfl (RL.fieldAddr fa_35_0 rfl rfl rfl rfl (RL.fieldAddr fa_32_0 rfl rfl rfl rfl (RL.p rfl ?_))))))
      refine RL.fork ⟨?_, ?_, trivial⟩
      ·
        refine RL.load Tryz.isAgg22 rfl rfl rfl rfl (Rd.get (by repeat (first | exact List.Mem.head _ | apply List.Mem.tail)) (ps_at0 _ _ _ _)) ?_
        refine RL.callq (wsource_any b1 ⟨bw, 0, none⟩ n (nm :: w) (1, true) hn hn1 hx1 hnb hwl) Tryz.call78 rfl rfl rfl rfl rfl (.inr rfl) ?_
        rintro _ _ _ ⟨rfl, rfl, rfl⟩; rw [hsv]
        refine RL.buildSlice sv.cells Tryz.runUnderlying22 Tryz.sizeOf98 Tryz.zeroValue98 rfl rfl (by decide) (by decide) rfl rfl rfl rfl rfl (fill_one48 hsl rfl) ?_
        intro b2
        refine RL.appendA el_22 rfl rfl rfl rfl rfl rfl rfl (by first | exact ⟨(.take (Pick.none _)), rfl⟩ | exact ⟨(.leave (.take (Pick.none _))), rfl⟩ | exact ⟨(.leave (.leave (.take (Pick.none _)))), rfl⟩ | exact ⟨(.leave (.leave (.leave (.take (Pick.none _))))), rfl⟩ | exact ⟨(.leave (.leave (.leave (.leave (.take (Pick.none _)))))), rfl⟩ | exact ⟨(.leave (.leave (.leave (.leave (.leave (.take (Pick.none _))))))), rfl⟩ | exact ⟨(.leave (.leave (.leave (.leave (.leave (.leave (.take (Pick.none _)))))))), rfl⟩ | exact ⟨(.leave (.leave (.leave (.leave (.leave (.leave (.leave (.take (Pick.none _))))))))), rfl⟩ | exact ⟨(.leave (.leave (.leave (.leave (.leave (.leave (.leave (.leave (.take (Pick.none _)))))))))), rfl⟩ | exact ⟨(.leave (.leave (.leave (.leave (.leave (.leave (.leave (.leave (.leave (.take (Pick.none _))))))))))), rfl⟩) (Src.cel (cs := sv.cells) (by repeat (first | exact List.Mem.head _ | apply List.Mem.tail)) hsl) (ones_spec (sr_ones _)) (by first | omega | (simp only [maxLen]; omega)) (by first | omega | (simp only [maxLen]; omega)) ?_
        intro ob1 cap1 ho1
        refine RL.p rfl (RL.fieldAddr fa_124_0 rfl rfl rfl rfl (RL.fieldAddr fa_35_0 rfl rfl rfl rfl (RL.fieldAddr fa_32_0 rfl rfl rfl rfl (RL.storeX (vs := [_]) (ps_sl _) Tryz.sizeOf22 rfl rfl rfl rfl rfl rfl rfl rfl (by repeat (first | exact Upd.here | apply Upd.there)) (by rw [ps_len hcm]; show 0 + 0 + 0 + 0 + 1 ≤ 51; decide) ?_))))
        refine RL.nil (NQ.block ?_)
        exact NQ.midR (⟨⟨⟨g0, g1, g2, dr, sc, cm, mo, ti, gr, sd, L ++ [sv]⟩, zs, de, ra, m, sz⟩, ob1, cap1, oz, cz, ZL, seen ++ [nm]⟩, srcW (nm :: w) (1, true)) ⟨⟨hfin, hcm, hzl⟩, hle⟩ (.cons rfl .nil) (fun w' h => by dsimp only [PM.its]; rw [mapS_no hno, hl1, ← hfl]; exact h.rea (fun _ h => h) (by repeat (first | exact Rea.nil | (apply Rea.cons; (solve | (repeat (first | exact Del.here | apply Del.there)))))))
      ·
        refine RL.callq (wsource_any b1 ⟨bw, 0, none⟩ n (nm :: w) (1, true) hn hn1 hx1 hnb hwl) Tryz.call78 rfl rfl rfl rfl rfl (.inr rfl) ?_
        rintro _ _ _ ⟨rfl, rfl, rfl⟩; rw [hsv]
        refine RL.load Tryz.isAgg22 rfl rfl rfl rfl (Rd.get (by repeat (first | exact List.Mem.head _ | apply List.Mem.tail)) (ps_at0 _ _ _ _)) ?_
        refine RL.buildSlice sv.cells Tryz.runUnderlying22 Tryz.sizeOf98 Tryz.zeroValue98 rfl rfl (by decide) (by decide) rfl rfl rfl rfl rfl (fill_one48 hsl rfl) ?_
        intro b2
        refine RL.appendA el_22 rfl rfl rfl rfl rfl rfl rfl (by first | exact ⟨(.take (Pick.none _)), rfl⟩ | exact ⟨(.leave (.take (Pick.none _))), rfl⟩ | exact ⟨(.leave (.leave (.take (Pick.none _)))), rfl⟩ | exact ⟨(.leave (.leave (.leave (.take (Pick.none _))))), rfl⟩ | exact ⟨(.leave (.leave (.leave (.leave (.take (Pick.none _)))))), rfl⟩ | exact ⟨(.leave (.leave (.leave (.leave (.leave (.take (Pick.none _))))))), rfl⟩ | exact ⟨(.leave (.leave (.leave (.leave (.leave (.leave (.take (Pick.none _)))))))), rfl⟩ | exact ⟨(.leave (.leave (.leave (.leave (.leave (.leave (.leave (.take (Pick.none _))))))))), rfl⟩ | exact ⟨(.leave (.leave (.leave (.leave (.leave (.leave (.leave (.leave (.take (Pick.none _)))))))))), rfl⟩ | exact ⟨(.leave (.leave (.leave (.leave (.leave (.leave (.leave (.leave (.leave (.take (Pick.none _))))))))))), rfl⟩) (Src.cel (cs := sv.cells) (by repeat (first | exact List.Mem.head _ | apply List.Mem.tail)) hsl) (ones_spec (sr_ones _)) (by first | omega | (simp only [maxLen]; omega)) (by first | omega | (simp only [maxLen]; omega)) ?_
        intro ob1 cap1 ho1
        refine RL.p rfl (RL.fieldAddr fa_124_0 rfl rfl rfl rfl (RL.fieldAddr fa_35_0 rfl rfl rfl rfl (RL.fieldAddr fa_32_0 rfl rfl rfl rfl (RL.storeX (vs := [_]) (ps_sl _) Tryz.sizeOf22 rfl rfl rfl rfl rfl rfl rfl rfl (by repeat (first | exact Upd.here | apply Upd.there)) (by rw [ps_len hcm]; show 0 + 0 + 0 + 0 + 1 ≤ 51; decide) ?_))))
        refine RL.nil (NQ.block ?_)
        exact NQ.midR (⟨⟨⟨g0, g1, g2, dr, sc, cm, mo, ti, gr, sd, L ++ [sv]⟩, zs, de, ra, m, sz⟩, ob1, cap1, oz, cz, ZL, seen ++ [nm]⟩, srcW (nm :: w) (1, true)) ⟨⟨hfin, hcm, hzl⟩, hle⟩ (.cons rfl .nil) (fun w' h => by dsimp only [PM.its]; rw [mapS_no hno, hl1, ← hfl]; exact h.rea (fun _ h => h) (by repeat (first | exact Rea.nil | (apply Rea.cons; (solve | (repeat (first | exact Del.here | apply Del.there)))))))
    ·
      have hA' : nm ≠ nSource := by simpa using hA
      refine CW.seq (CW.rg (RL.cmp rfl rfl rfl rfl rfl (fun w' => eql_txt nm nZone w') ?_))
      refine RL.p rfl (RL.nil (NQ.seq ?_))
      refine CW.cond rfl (fun hB => ?_) (fun hB => ?_)
      · have hB' : nm = nZone := by simpa using hB
        have hno : isNm nm = false := by rw [hB']; rfl
        have hfin : stepT (⟨⟨g0, g1, g2, dr, sc, cm, mo, ti, gr, sd, L⟩, zs, de, ra, m, sz⟩, seen) s = if wEnd (nm :: w) (zonW (nm :: w) (1, true)) = true then some (⟨⟨g0, g1, g2, dr, sc, cm, mo, ti, gr, sd, L⟩, zs ++ [zonV (nm :: w) (1, true)], de, ra, m, sz⟩, seen ++ [nm]) else none := by
          rw [hst, lineT, if_neg hA', if_pos hB', zon_spec nm w]
          by_cases he : wEnd (nm :: w) (zonW (nm :: w) (1, true)) = true
          · rw [if_pos he, if_pos he]
            show (if nm ≠ nSource ∧ nm ≠ nZone ∧ _ then none else _) = _
            rw [if_neg (fun h => h.2.1 hB')]
          · rw [if_neg he, if_neg he]
        have hle : (zonW (nm :: w) (1, true)).1 ≤ n := zonW_le hn hx1
        generalize hzv : zonV (nm :: w) (1, true) = Z at hfin
        have hl1 : (zs ++ [Z]).length = zs.length + 1 := by simp
        have hfl : ∀ (ob : Option Nat) (cp : Nat), ZL.flatMap znO ++ znC Z.keep (slO ob Z.L.length cp) Z.fl Z.rf = (ZL ++ [((Z, ob, cp) : ZO)]).flatMap znO := fun ob cp => by rw [List.flatMap_append]; simp [znO]
        have hz2 : ∀ (ob : Option Nat) (cp : Nat), (ZL ++ [((Z, ob, cp) : ZO)]).map (·.1) = zs ++ [Z] := fun ob cp => by rw [List.map_append, hzl]; rfl
        have hpm : ∀ (ob : Option Nat) (cp : Nat), ((ZL ++ [((Z, ob, cp) : ZO)]).map znI).Perm (znI (Z, ob, cp) :: ZL.map znI) := fun ob cp => by rw [List.map_append]; exact List.perm_append_comm
        refine CW.regionD (.cons 0 (.cons 1 (.cons 2 (.cons 3 (.cons 4 (.cons 6 (.fork [5, 7] (fun k => (bif Nat.beq k 5 then (Sq.of [7, 8, 9, 10, 11, 12, 13]) else (Sq.of [5, 8, 9, 10, 11, 12, 13])))))))))) [7, 8, 9, 13] [7, 9, 13] [0, 1, 2, 3, 4, 6, 10, 11, 12] mixed (by kernel_rfl) ?_
        refine RL.p rfl (RL.p rfl (RL.p rfl (RL.fieldAddr fa_124_0 rfl rfl rfl rfl (RL.fieldAddr fa_35_1 rfl rfl rfl rfl (RL.p rfl ?_)))))
        refine RL.fork ⟨?_, ?_, trivial⟩
        ·
          refine RL.load Tryz.isAgg33 rfl rfl rfl rfl (Rd.get (by repeat (first | exact List.Mem.head _ | apply List.Mem.tail)) (ps_at45 hcm _ _ _)) ?_
          refine RL.callq (wzone_any b1 ⟨bw, 0, none⟩ n (nm :: w) (1, true) hn hn1 hx1 hnb hwl) Tryz.call79 rfl rfl rfl rfl rfl (.inr rfl) ?_
          rintro _ _ _ ⟨ob, cp, rfl, rfl, rfl⟩; rw [hzv]
          refine RL.buildSlice (znC Z.keep (slO ob Z.L.length cp) Z.fl Z.rf) Tryz.runUnderlying33 Tryz.sizeOf73 Tryz.zeroValue73 rfl rfl (by decide) (by decide) rfl rfl rfl rfl rfl (fill_one4 rfl) ?_
          intro b2
          refine RL.appendA el_33 rfl rfl rfl rfl rfl rfl rfl (by first | exact ⟨(.take (Pick.none _)), rfl⟩ | exact ⟨(.leave (.take (Pick.none _))), rfl⟩ | exact ⟨(.leave (.leave (.take (Pick.none _)))), rfl⟩ | exact ⟨(.leave (.leave (.leave (.take (Pick.none _))))), rfl⟩ | exact ⟨(.leave (.leave (.leave (.leave (.take (Pick.none _)))))), rfl⟩ | exact ⟨(.leave (.leave (.leave (.leave (.leave (.take (Pick.none _))))))), rfl⟩ | exact ⟨(.leave (.leave (.leave (.leave (.leave (.leave (.take (Pick.none _)))))))), rfl⟩ | exact ⟨(.leave (.leave (.leave (.leave (.leave (.leave (.leave (.take (Pick.none _))))))))), rfl⟩ | exact ⟨(.leave (.leave (.leave (.leave (.leave (.leave (.leave (.leave (.take (Pick.none _)))))))))), rfl⟩ | exact ⟨(.leave (.leave (.leave (.leave (.leave (.leave (.leave (.leave (.leave (.take (Pick.none _))))))))))), rfl⟩) (Src.cel (cs := znC Z.keep (slO ob Z.L.length cp) Z.fl Z.rf) (by repeat (first | exact List.Mem.head _ | apply List.Mem.tail)) rfl) (ones_spec rfl) (by first | omega | (simp only [maxLen]; omega)) (by first | omega | (simp only [maxLen]; omega)) ?_
          intro ob1 cap1 ho1
          refine RL.p rfl (RL.fieldAddr fa_124_0 rfl rfl rfl rfl (RL.fieldAddr fa_35_1 rfl rfl rfl rfl (RL.storeX (vs := [_]) (ps_zl hcm _) Tryz.sizeOf33 rfl rfl rfl rfl rfl rfl rfl rfl (by repeat (first | exact Upd.here | apply Upd.there)) (by rw [ps_len hcm]; show 0 + 0 + 45 + 1 ≤ 51; decide) ?_)))
          refine RL.nil (NQ.block ?_)
          exact NQ.midR (⟨⟨⟨g0, g1, g2, dr, sc, cm, mo, ti, gr, sd, L⟩, zs ++ [Z], de, ra, m, sz⟩, oa, ca, ob1, cap1, ZL ++ [(Z, ob, cp)], seen ++ [nm]⟩, zonW (nm :: w) (1, true)) ⟨⟨hfin, hcm, hz2 ob cp⟩, hle⟩ (.cons rfl .nil) (fun w' h => by dsimp only [PM.its]; rw [mapS_no hno, hl1, ← hfl]; exact (Cls.pushA (hpm ob cp) (h.rea (fun _ h => h) (H' := znI (Z, ob, cp) :: allI (ZL.map znI) :: [wdI b1 ⟨bw, 0, none⟩ n (zonW (nm :: w) (1, true)), cel br (psC ⟨⟨g0, g1, g2, dr, sc, cm, mo, ti, gr, sd, L⟩, zs, de, ra, m, sz⟩ (slO oa L.length ca) (slO ob1 (zs.length + 1) cap1) mp) 124, mapI mp goodT (mapS seen), own oa ca 98 48 L.length (L.flatMap Sr.cells), own ob1 cap1 73 4 (zs.length + 1) (ZL.flatMap znO ++ znC Z.keep (slO ob Z.L.length cp) Z.fl Z.rf)]) (by repeat (first | exact Rea.nil | (apply Rea.cons; (solve | (repeat (first | exact Del.here | apply Del.there)))))))).rea (fun _ h => h) (by repeat (first | exact Rea.nil | (apply Rea.cons; (solve | (repeat (first | exact Del.here | apply Del.there)))))))
        ·
          refine RL.callq (wzone_any b1 ⟨bw, 0, none⟩ n (nm :: w) (1, true) hn hn1 hx1 hnb hwl) Tryz.call79 rfl rfl rfl rfl rfl (.inr rfl) ?_
          rintro _ _ _ ⟨ob, cp, rfl, rfl, rfl⟩; rw [hzv]
          refine RL.load Tryz.isAgg33 rfl rfl rfl rfl (Rd.get (by repeat (first | exact List.Mem.head _ | apply List.Mem.tail)) (ps_at45 hcm _ _ _)) ?_
          refine RL.buildSlice (znC Z.keep (slO ob Z.L.length cp) Z.fl Z.rf) Tryz.runUnderlying33 Tryz.sizeOf73 Tryz.zeroValue73 rfl rfl (by decide) (by decide) rfl rfl rfl rfl rfl (fill_one4 rfl) ?_
          intro b2
          refine RL.appendA el_33 rfl rfl rfl rfl rfl rfl rfl (by first | exact ⟨(.take (Pick.none _)), rfl⟩ | exact ⟨(.leave (.take (Pick.none _))), rfl⟩ | exact ⟨(.leave (.leave (.take (Pick.none _)))), rfl⟩ | exact ⟨(.leave (.leave (.leave (.take (Pick.none _))))), rfl⟩ | exact ⟨(.leave (.leave (.leave (.leave (.take (Pick.none _)))))), rfl⟩ | exact ⟨(.leave (.leave (.leave (.leave (.leave (.take (Pick.none _))))))), rfl⟩ | exact ⟨(.leave (.leave (.leave (.leave (.leave (.leave (.take (Pick.none _)))))))), rfl⟩ | exact ⟨(.leave (.leave (.leave (.leave (.leave (.leave (.leave (.take (Pick.none _))))))))), rfl⟩ | exact ⟨(.leave (.leave (.leave (.leave (.leave (.leave (.leave (.leave (.take (Pick.none _)))))))))), rfl⟩ | exact ⟨(.leave (.leave (.leave (.leave (.leave (.leave (.leave (.leave (.leave (.take (Pick.none _))))))))))), rfl⟩) (Src.cel (cs := znC Z.keep (slO ob Z.L.length cp) Z.fl Z.rf) (by repeat (first | exact List.Mem.head _ | apply List.Mem.tail)) rfl) (ones_spec rfl) (by first | omega | (simp only [maxLen]; omega)) (by first | omega | (simp only [maxLen]; omega)) ?_
          intro ob1 cap1 ho1
          refine RL.p rfl (RL.fieldAddr fa_124_0 rfl rfl rfl rfl (RL.fieldAddr fa_35_1 rfl rfl rfl rfl (RL.storeX (vs := [_]) (ps_zl hcm _) Tryz.sizeOf33 rfl rfl rfl rfl rfl rfl rfl rfl (by repeat (first | exact Upd.here | apply Upd.there)) (by rw [ps_len hcm]; show 0 + 0 + 45 + 1 ≤ 51; decide) ?_)))
          refine RL.nil (NQ.block ?_)
          exact NQ.midR (⟨⟨⟨g0, g1, g2, dr, sc, cm, mo, ti, gr, sd, L⟩, zs ++ [Z], de, ra, m, sz⟩, oa, ca, ob1, cap1, ZL ++ [(Z, ob, cp)], seen ++ [nm]⟩, zonW (nm :: w) (1, true)) ⟨⟨hfin, hcm, hz2 ob cp⟩, hle⟩ (.cons rfl .nil) (fun w' h => by dsimp only [PM.its]; rw [mapS_no hno, hl1, ← hfl]; exact (Cls.pushA (hpm ob cp) (h.rea (fun _ h => h) (H' := znI (Z, ob, cp) :: allI (ZL.map znI) :: [wdI b1 ⟨bw, 0, none⟩ n (zonW (nm :: w) (1, true)), cel br (psC ⟨⟨g0, g1, g2, dr, sc, cm, mo, ti, gr, sd, L⟩, zs, de, ra, m, sz⟩ (slO oa L.length ca) (slO ob1 (zs.length + 1) cap1) mp) 124, mapI mp goodT (mapS seen), own oa ca 98 48 L.length (L.flatMap Sr.cells), own ob1 cap1 73 4 (zs.length + 1) (ZL.flatMap znO ++ znC Z.keep (slO ob Z.L.length cp) Z.fl Z.rf)]) (by repeat (first | exact Rea.nil | (apply Rea.cons; (solve | (repeat (first | exact Del.here | apply Del.there)))))))).rea (fun _ h => h) (by repeat (first | exact Rea.nil | (apply Rea.cons; (solve | (repeat (first | exact Del.here | apply Del.there)))))))
      ·
        have hB' : nm ≠ nZone := by simpa using hB
        have hone := one_spec ⟨⟨g0, g1, g2, dr, sc, cm, mo, ti, gr, sd, L⟩, zs, de, ra, m, sz⟩ nm w
        have hlt := hst ⟨⟨g0, g1, g2, dr, sc, cm, mo, ti, gr, sd, L⟩, zs, de, ra, m, sz⟩
        rw [lineT, if_neg hA', if_neg hB', hone] at hlt
        have hkeep := fun q => oneV_keep (ws := nm :: w) (P := ⟨⟨g0, g1, g2, dr, sc, cm, mo, ti, gr, sd, L⟩, zs, de, ra, m, sz⟩) (nm := nm) (x := (1, true)) (q := q)
        have hcmq := fun q => oneV_cm (ws := nm :: w) (P := ⟨⟨g0, g1, g2, dr, sc, cm, mo, ti, gr, sd, L⟩, zs, de, ra, m, sz⟩) (nm := nm) (x := (1, true)) (q := q) hcm
        have hleq := fun q => oneV_le (ws := nm :: w) (P := ⟨⟨g0, g1, g2, dr, sc, cm, mo, ti, gr, sd, L⟩, zs, de, ra, m, sz⟩) (nm := nm) (x := (1, true)) (q := q) hn hx1
        refine CW.seq (CW.region (ef := [3]) (bk := [3]) (RL.p rfl (RL.p rfl (RL.p rfl (RL.callq (once_any b1 ⟨bw, 0, none⟩ n (nm :: w) (1, true) hn hn1 hx1 hnb hwl br ⟨⟨g0, g1, g2, dr, sc, cm, mo, ti, gr, sd, L⟩, zs, de, ra, m, sz⟩ hcm (slO oa L.length ca) (slO oz zs.length cz) rfl rfl mp nm seen) Tryz.call80 rfl rfl rfl rfl rfl (.inr rfl) ?_)))))
        rintro _ _ _ (⟨hq, rfl, rfl, rfl⟩ | ⟨⟨P', x'⟩, hq, rfl, rfl, rfl⟩)
        · rw [hq] at hlt
          refine RL.p rfl (RL.nil (NQ.seq (CW.ok [0, 5, 6, 13, 18] rfl (CW.condT rfl (rfl) (CW.seq (CW.rg (RL.p rfl (RL.nil (NQ.seq (CW.ret (RQ.block ?_)))))))))))
          exact RQ.midR (RQ.post (res1 rfl rfl) (Split.none _) (.inl ⟨hlt, rfl, rfl, rfl⟩))
        ·
          rw [hq] at hlt
          obtain ⟨e1, e2⟩ := hkeep _ hq
          have hc' := hcmq _ hq
          have hl' := hleq _ hq
          dsimp only at e1 e2 hc' hl' hlt ⊢
          refine RL.p rfl (RL.nil (NQ.seq (CW.ok [0, 5, 6, 13, 18] rfl ?_)))
          refine CW.cond rfl (fun hs => ?_) (fun hs => ?_)
          ·
            refine CW.seq (CW.rg (RL.p rfl (RL.nil (NQ.seq (CW.ret (RQ.block ?_))))))
            have hs' : nm ∈ seen := by simpa using hs
            refine RQ.midR (RQ.post (res1 rfl rfl) (Split.none _) (.inl ⟨?_, rfl, rfl, rfl⟩))
            rw [hlt]
            by_cases he : wEnd (nm :: w) x' = true
            · rw [if_pos he]
              show (if nm ≠ nSource ∧ nm ≠ nZone ∧ nm ∈ seen then none else _) = _
              rw [if_pos ⟨hA', hB', hs'⟩]
            · rw [if_neg he]
          ·
            refine CW.skip (NQ.block ?_)
            have hs' : nm ∉ seen := by simpa using hs
            refine NQ.midR (⟨P', oa, ca, oz, cz, ZL, seen ++ [nm]⟩, x') ⟨⟨?_, hc', by rw [hzl, e2]⟩, hl'⟩ (.cons rfl .nil) (fun w' h => by dsimp only [PM.its]; rw [e1, e2]; rw [if_neg hs'] at h; exact h.rea (fun _ h => h) (by repeat (first | exact Rea.nil | (apply Rea.cons; (solve | (repeat (first | exact Del.here | apply Del.there)))))))
            rw [hlt]
            by_cases he : wEnd (nm :: w) x' = true
            · rw [if_pos he, if_pos he]
              show (if nm ≠ nSource ∧ nm ≠ nZone ∧ nm ∈ seen then none else _) = _
              rw [if_neg (fun h => hs' h.2.2)]
            · rw [if_neg he, if_neg he]
  rintro ⟨z', x'⟩ ⟨⟨hq, hok⟩, hx'⟩
  dsimp only at hq hok hx' ⊢
  refine CW.seq (CW.region (ef := [1]) (bk := [1]) (RL.p rfl (RL.callq (wend_any b1 ⟨bw, 0, none⟩ n (nm :: w) x' hx' hnb) Tryz.call81 rfl rfl rfl rfl rfl (.inr rfl) ?_)))
  rintro _ _ _ ⟨rfl, rfl, rfl⟩
  refine RL.p rfl (RL.nil (NQ.seq (CW.ret ?_)))
  have hwe : (x'.2 && decide (x'.1 = n)) = wEnd (nm :: w) x' := by rw [wEnd, hn]
  by_cases he : wEnd (nm :: w) x' = true
  · rw [if_pos he] at hq
    exact RQ.post (res1 rfl rfl) (.drop (.keep (.keep (.keep (.keep (.keep (Split.none _))))))) (.inr ⟨z', hq, hok, by rw [hwe, he], rfl, rfl⟩)
  · rw [if_neg he] at hq
    exact RQ.post (res1 rfl rfl) (Split.none _) (.inl ⟨hq, by rw [hwe]; simpa using he, rfl, rfl⟩)
end Go.Proofs.YthndhipjfdgdfaaGreatDoor

namespace Go.Proofs.YthndhipjfdgdfaaGreatDoor
open Go.PK
/-! ### A text is read -/
theorem resW3 {P : Program} {w0 : World} {S : List Nat} {N : Fm} {E : Env} {I H : List It} {fn : Func} {tt uu xx : Tmp} {T C : TypeId} {b nn : Nat} {vs : List Value} {v2 v3 : Value} (hf : fn.results = #[.cell tt T, .tmp uu, .tmp xx]) (ht : E.get tt = some (.pointer (some ⟨b, 0, none⟩))) (hu : E.get uu = some v2) (hx : E.get xx = some v3) (hag : ∀ w, (isAgg T).run P w = .ok true w) (hs : ∀ w, (sizeOf T).run P w = .ok nn w) (hm : PK.cel b vs C ∈ H) (hl : vs.length = nn) :
    ∀ a w, Ag N a E → Cls w0 S I H w → (results fn a.tmps).run P w = .ok (.tuple #[.agg vs.toArray, v2, v3]) w := fun a w ha hC => by
  have h1 := run_isAggT (P := P) hag (by rw [hl]; exact hs) (Rds.all (I := I) hm w hC.s)
  simp [results, hf, ha.t tt _ ht, ha.t uu _ hu, ha.t xx _ hx, asAddr, h1]
theorem RQ.allNil {w0 : World} {Q : Exit → Act → World → Prop} {N : Fm} {E : Env} {S : List Nat} {I H : List It} (h : RQ Q N E w0 S I (PK.allI [] :: H)) : RQ Q N E w0 S I H := fun a w ha hw => h a w ha (Cls.pack (l := []) hw)
abbrev plV (P : Pl) (oa : Option Nat) (ca : Nat) (oz : Option Nat) (cz : Nat) : Value := .agg (plC P (slO oa P.cf.L.length ca) (slO oz P.zs.length cz)).toArray
/-- A plan's things, one's own. -/
def plH (P : Pl) (oa : Option Nat) (ca : Nat) (oz : Option Nat) (cz : Nat) (ZL : List ZO) : List It := [own oa ca 98 48 P.cf.L.length (P.cf.L.flatMap Sr.cells), own oz cz 73 4 P.zs.length (ZL.flatMap znO), allI (ZL.map znI)]
theorem lend_zn {I F : List It} {ZL : List ZO} (hm : PK.allI (ZL.map znI) ∈ F) : ∀ l : List ZO, (∀ z ∈ l, z ∈ ZL) → Lend I F (l.map znS)
  | [], _ => .nil
  | z :: l, h => by
    have hz := h z (List.mem_cons_self ..)
    refine Lend.of (fun w hw => ?_) (fun b hb => .inr (mem_bss.2 ⟨_, hm, ?_⟩)) (lend_zn hm l (fun x hx => h x (List.mem_cons_of_mem _ hx)))
    · have h1 := (hw.h _ hm) (znI z) (List.mem_map_of_mem hz)
      exact own_sls h1
    · have h2 : b ∈ (znI z).bs := by
        simp only [znS, sls] at hb
        simp only [znI, own]
        by_cases h0 : z.1.L.length = 0
        · rw [if_pos h0] at hb; cases hb
        · rw [if_neg h0] at hb
          cases hz1 : z.2.1 <;> rw [hz1] at hb <;> simp at hb
          subst hb; simp
      exact mem_bss.2 ⟨_, List.mem_map_of_mem hz, h2⟩
theorem ps_pl (P : Pl) (sl zl : Value) (mp : Nat) : psC P sl zl mp = plC P sl zl ++ [.map (some mp)] := by simp [psC, plC]
theorem pl_ones (P : Pl) {sl zl : Value} (h1 : sl.oneCell' = true) (h2 : zl.oneCell' = true) : ones (plC P sl zl) = true := ones_app (cf_ones _ h1) (by show (zl.oneCell' && _) = true; rw [h2]; rfl)
def PaR (r : Pl × Nat × Int) : Value → List It → List It → Prop := fun v I' H' => ∃ oa ca oz cz ZL, ZL.map (·.1) = r.1.zs ∧ v = .tuple #[plV r.1 oa ca oz cz, .int .i64 (r.2.1 : Int), .int .i64 r.2.2] ∧ I' = [] ∧ H' = plH r.1 oa ca oz cz ZL
abbrev noP : Value := .agg (plC zeroPl (.slice none 0 0) (.slice none 0 0)).toArray
theorem PaR.no {v : Value} {k : Nat} {e : Int} (hv : v = .tuple #[noP, .int .i64 (k : Int), .int .i64 e]) : PaR (zeroPl, k, e) v [] [own none 0 98 48 0 [], own none 0 73 4 0 [], allI []] :=
  ⟨none, 0, none, 0, [], rfl, hv, rfl, rfl⟩
theorem gsays_any (s : Tx) : Spc Tryz.prog 45 #[strV s] [] [] (Is (.bool (saysT s))) := by
  refine Spc.enter Tryz.func45 rfl rfl rfl (fun w0 hw0 => ?_)
  refine CW.seq (CW.rg (RL.p rfl (RL.nil (NQ.seq (CW.seq (CW.rg (RL.p rfl (RL.cmp rfl rfl rfl rfl rfl (fun w => neq_txt s [] w) ?_))))))))
  refine RL.p rfl ?_
  refine RL.part (d := 5) rfl (fun h => ?_) (fun h => ?_)
  · have hs : s ≠ [] := by simpa using h
    cases s with
    | nil => exact absurd rfl hs
    | cons c r =>
    refine RL.p rfl (RL.idxTxt (j := 0) Tryz.runUnderlying9 rfl rfl rfl rfl rfl rfl rfl (RL.p rfl (RL.p rfl (RL.p rfl (RL.nil (NQ.seq (CW.ok [2] rfl (CW.ret ?_))))))))
    refine RQ.post (res1 rfl rfl) (Split.none _) ⟨?_, rfl, rfl⟩
    congr 1
    rw [saysT, Bool.eq_iff_iff]
    have e : ((c.toNat : Int) = 35) ↔ c = 35#8 := ⟨fun h => BitVec.eq_of_toNat_eq (by show c.toNat = 35; omega), fun h => by rw [h]; rfl⟩
    simp [e]
  · have hs : s = [] := by simpa using h
    subst hs
    refine RL.p rfl (RL.p rfl (RL.p rfl (RL.p rfl (RL.p rfl (RL.nil (NQ.seq (CW.ok [2] rfl (CW.ret ?_))))))))
    exact RQ.post (res1 rfl rfl) (Split.none _) ⟨rfl, rfl, rfl⟩
theorem runT_cons {l : Tx} {r : List Tx} {k : Nat} {st : PS} : runT (l :: r) k st = if saysT l = true then (match stepT st l with
      | none => .inl (k + 1)
      | some st' => runT r (k + 1) st') else runT r (k + 1) st := rfl
theorem cnt_step {L : List Tx} {i : Nat} {s : Tx} (h : L[i]? = some s) : (L.take (i + 1)).countP saysT = (L.take i).countP saysT + (if saysT s = true then 1 else 0) := by
  rw [List.take_add_one, h, List.countP_append]
  show _ + [s].countP saysT = _
  rw [List.countP_cons, List.countP_nil, Nat.zero_add]
theorem gparse_any (t : Tx) : Spc Tryz.prog 16 #[strV t] [gvI] [] (PaR (parseT t)) := by
  refine Spc.enter Tryz.func16 rfl rfl rfl (fun w0 hw0 => ?_)
  refine CW.seq (CW.region (ef := [0]) (bk := []) (RL.alloc Tryz.zeroValue35 rfl rfl rfl rfl rfl ?_))
  intro b1
  refine RL.p rfl (RL.p rfl (RL.nil (NQ.seq (CW.seq (CW.region (ef := [0]) (bk := []) (RL.alloc Tryz.zeroValue35 rfl rfl rfl rfl rfl ?_))))))
  intro b2
  refine RL.nil (NQ.seq (CW.seq (CW.seq (CW.rg (RL.p rfl (RL.lenTxt Tryz.runUnderlying9 rfl rfl rfl rfl (RL.p rfl (RL.nil (NQ.seq ?_)))))))))
  refine CW.cond rfl (fun h0 => ?_) (fun h0 => ?_)
  · have h0' : 65536 < t.length := by simp at h0; omega
    refine CW.seq (CW.region (ef := [1]) (bk := [1]) (RL.loadW Tryz.isAgg35 Tryz.sizeOf35 rfl rfl rfl rfl (by repeat (first | exact List.Mem.head _ | apply List.Mem.tail)) (by first | rfl | assumption | (simp only [List.length_map]; assumption) | (simp only [List.length_map, List.length_replicate]; done) | (simp; done)) ?_))
    refine RL.storeWq Tryz.sizeOf35 rfl rfl rfl rfl rfl rfl rfl ?_
    refine RL.p rfl (RL.p rfl (RL.nil (NQ.seq (CW.ret (RQ.seq (RQ.allNil (RQ.ownNone (e := 73) 4 (RQ.ownNone (e := 98) 48 (RQ.post (resW3 rfl rfl rfl rfl Tryz.isAgg35 Tryz.sizeOf35 (by repeat (first | exact List.Mem.head _ | apply List.Mem.tail)) rfl) (.keep (.keep (.keep (Split.none _)))) ?_)))))))))
    rw [parseT, if_pos h0']
    exact PaR.no (k := 0) rfl
  · have h0' : ¬ 65536 < t.length := by simp at h0; omega
    have hlen := splL_len (c := 10#8) t
    have hct : t.count 10#8 ≤ t.length := List.count_le_length
    have hsum := splL_sum (c := 10#8) t
    have hll : ∀ s ∈ splL 10#8 t, s.length ≤ 70000 := fun s hs => by
      have h2 : s.length ≤ (splL 10#8 t).flatten.length := by
        obtain ⟨l1, l2, e⟩ := List.append_of_mem hs
        rw [e]; simp; omega
      omega
    have hp : parseT t = (if 64 < (splL 10#8 t).countP saysT then (zeroPl, 0, 3)
      else match runT (splL 10#8 t) 0 (zeroPl, []) with
      | .inl k => (zeroPl, k, 380)
      | .inr st => if allT st.2 = true then (if st.1.ok = true then (st.1, 0, 0) else (zeroPl, 0, 310)) else (zeroPl, 0, 380) : Pl × Nat × Int) := by rw [parseT, if_neg h0']; rfl
    rw [hp]
    clear hp
    refine CW.skip (NQ.seq (CW.seq (CW.region (ef := [1]) (bk := [1]) (RL.p rfl (RL.callq (split_any 10#8 t (by omega)) Tryz.call18 rfl rfl rfl rfl rfl (.inr rfl) ?_)))))
    rintro _ _ _ ⟨bl, rfl, rfl, rfl⟩
    generalize splL 10#8 t = L at hlen hsum hll ⊢
    generalize hn : L.length = n at hlen ⊢
    refine RL.p rfl (RL.nil (NQ.seq (CW.ok [2, 5, 6] rfl (CW.seq (CW.rg (RL.p rfl (RL.nil (NQ.seq (CW.seq (CW.seq (CW.rg (RL.p rfl (RL.lenS Tryz.runUnderlying62 rfl rfl rfl rfl ?_)))))))))))))
    refine RL.p rfl (RL.nil (NQ.seq (CW.block ?_)))
    refine CW.genI (fun J hJ => ?_)
    have mL : sls (some ⟨bl, 0, none⟩) 1 n (L.map strV) ∈ J := hJ _ (by simp)
    have mG : gvI ∈ J := hJ _ (by simp)
    clear hJ
    refine CW.loop (γ := Nat) (fun i => i ≤ n) (fun i => [(2, .pointer (some ⟨b1, 0, none⟩)), (5, .pointer (some ⟨b2, 0, none⟩)), (6, .slice (some ⟨bl, 0, none⟩) n n), (7, .int .i64 (((L.take i).countP saysT : Nat) : Int)), (20, .slice (some ⟨bl, 0, none⟩) n n), (21, .int .i64 (n : Int)), (22, .int .i64 (i : Int))]) (fun _ => J) (fun _ => [cel b2 (plC zeroPl (.slice none 0 0) (.slice none 0 0)) 35, cel b1 (plC zeroPl (.slice none 0 0) (.slice none 0 0)) 35]) (fun i => n - i) 0 (by omega) (.cons rfl (.cons rfl (.cons rfl (.cons rfl (.cons rfl (.cons rfl (.cons rfl .nil))))))) (fun w h => h.rea (fun _ h => h) (by repeat (first | exact Rea.nil | (apply Rea.cons; (solve | (repeat (first | exact Del.here | apply Del.there))))))) ?_
    intro i hi
    have hcl : (L.take i).countP saysT ≤ i := by
      have h1 := List.countP_le_length (p := saysT) (l := L.take i)
      rw [List.length_take] at h1; omega
    refine CW.seq (CW.rg (RL.p rfl (RL.nil (NQ.seq (CW.seq ?_)))))
    refine CW.cond rfl (fun hlt => ?_) (fun hlt => ?_)
    · have hlt' : i < n := by simp at hlt; omega
      have hx := List.getElem?_eq_getElem (show i < L.length by omega)
      generalize L[i] = s at hx
      have hst := cnt_step hx
      have fS : RdI J ⟨bl, 0 + i * 1, none⟩ (strV s) := ⟨fun H => by have h := Rd.getS (H := H) (v := strV s) (j := i * 1) mL (by rw [show i * 1 = i by omega, List.getElem?_map, hx]; rfl); rwa [add_none] at h⟩
      refine CW.skip (NQ.seq (CW.seq (CW.block (CW.seq (CW.rg (RL.idxAt (j := i) Tryz.runUnderlying62 Tryz.sizeOf9 rfl rfl rfl rfl rfl rfl (hlt') (RL.loadq Tryz.isAgg9 rfl rfl rfl rfl ?_)))))))
      refine RL.p rfl (RL.nil (NQ.seq (CW.seq (CW.rg (RL.p rfl (RL.callvq (gsays_any s) Tryz.call45 rfl rfl rfl rfl ?_))))))
      refine RL.nil (NQ.seq ?_)
      refine CW.cond rfl (fun hs => ?_) (fun hs => ?_)
      · rw [if_pos hs] at hst
        refine CW.rg (RL.p rfl (RL.bx rfl (wrapV_i64 (by omega) (by omega)) ?_))
        refine RL.p rfl (RL.nil (NQ.block (NQ.seq (CW.ok [2, 5, 6, 7, 20, 21, 22] rfl (CW.rg (RL.bx rfl (wrapV_i64 (by omega) (by omega)) ?_))))))
        refine RL.p rfl (RL.nil ?_)
        refine NQ.round (g := i) (i + 1) hlt' (by omega) (.cons rfl (.cons rfl (.cons rfl (.cons (k := 7) ?_ (.cons rfl (.cons rfl (.cons rfl .nil))))))) (fun w h => h.rea (fun _ h => h) (by repeat (first | exact Rea.nil | (apply Rea.cons; (solve | (repeat (first | exact Del.here | apply Del.there)))))))
        rw [hst]; rfl
      · rw [if_neg (by rw [hs]; decide)] at hst
        refine CW.skip (NQ.block (NQ.seq (CW.ok [2, 5, 6, 7, 20, 21, 22] rfl (CW.rg (RL.bx rfl (wrapV_i64 (by omega) (by omega)) ?_)))))
        refine RL.p rfl (RL.nil ?_)
        refine NQ.round (g := i) (i + 1) hlt' (by omega) (.cons rfl (.cons rfl (.cons rfl (.cons (k := 7) ?_ (.cons rfl (.cons rfl (.cons rfl .nil))))))) (fun w h => h.rea (fun _ h => h) (by repeat (first | exact Rea.nil | (apply Rea.cons; (solve | (repeat (first | exact Del.here | apply Del.there)))))))
        rw [hst]; rfl
    · have hin : n = i := by simp at hlt; omega
      subst hin
      rw [List.take_of_length_le (by omega)] at hcl ⊢
      refine CW.exit (XQ.seq (XQ.seq (XQ.hit (NQ.seq (CW.seq (CW.seq (CW.rg (RL.p rfl (RL.p rfl (RL.nil (NQ.seq (CW.ok [2, 5, 6, 32] rfl ?_))))))))))))
      refine CW.cond rfl (fun h64 => ?_) (fun h64 => ?_)
      · have h64' : 64 < L.countP saysT := by simp at h64; omega
        rw [if_pos h64']
        refine CW.seq (CW.region (ef := [1]) (bk := [1]) (RL.loadW Tryz.isAgg35 Tryz.sizeOf35 rfl rfl rfl rfl (by repeat (first | exact List.Mem.head _ | apply List.Mem.tail)) (by first | rfl | assumption | (simp only [List.length_map]; assumption) | (simp only [List.length_map, List.length_replicate]; done) | (simp; done)) ?_))
        refine RL.storeWq Tryz.sizeOf35 rfl rfl rfl rfl rfl rfl rfl ?_
        refine RL.p rfl (RL.p rfl (RL.nil (NQ.seq (CW.ret (RQ.seq (RQ.allNil (RQ.ownNone (e := 73) 4 (RQ.ownNone (e := 98) 48 ?_))))))))
        exact RQ.post (resW3 rfl rfl rfl rfl Tryz.isAgg35 Tryz.sizeOf35 (by repeat (first | exact List.Mem.head _ | apply List.Mem.tail)) rfl) (.keep (.keep (.keep (Split.none _)))) (PaR.no (k := 0) rfl)
      · have h64' : ¬ 64 < L.countP saysT := by simp at h64; omega
        rw [if_neg h64']
        clear h64 h64' hcl hi
        generalize hR : runT L 0 (zeroPl, []) = R
        refine CW.skip (NQ.seq (CW.seq (CW.region (ef := [0, 2]) (bk := []) ?_)))
        refine RL.makeMap (good := goodT) rfl rfl rfl rfl (fun mp => ?_)
        refine RL.buildS (psC zeroPl (.slice none 0 0) (.slice none 0 0) mp) Tryz.zeroValue124 pl_124 rfl rfl rfl rfl rfl (RL.box rfl rfl rfl rfl rfl rfl ?_)
        intro b3
        refine RL.p rfl (RL.nil (NQ.seq (CW.seq (CW.seq (CW.rg (RL.p rfl (RL.lenS Tryz.runUnderlying62 rfl rfl rfl rfl (RL.p rfl (RL.nil (NQ.seq (CW.block ?_)))))))))))
        refine CW.loop (γ := Nat × PM) (fun g => ((g.1 ≤ n ∧ g.2.Ok) ∧ Inv g.1 g.2.P ∧ (g.2.seen.filter isNm).Nodup) ∧ runT (L.drop g.1) g.1 (g.2.P, g.2.seen) = R) (fun g => [(2, .pointer (some ⟨b1, 0, none⟩)), (5, .pointer (some ⟨b2, 0, none⟩)), (10, .pointer (some ⟨b3, 0, none⟩)), (37, .slice (some ⟨bl, 0, none⟩) n n), (38, .int .i64 (n : Int)), (39, .int .i64 (g.1 : Int))]) (fun _ => J) (fun g => g.2.its b3 mp ++ [cel b2 (plC zeroPl (.slice none 0 0) (.slice none 0 0)) 35, cel b1 (plC zeroPl (.slice none 0 0) (.slice none 0 0)) 35]) (fun g => n - g.1) (0, ⟨zeroPl, none, 0, none, 0, [], []⟩) ⟨⟨⟨Nat.zero_le _, rfl, rfl⟩, inv0, List.nodup_nil⟩, hR⟩ (.cons rfl (.cons rfl (.cons rfl (.cons rfl (.cons rfl (.cons rfl .nil)))))) (fun w h => ?_) ?_
        · exact (Cls.pack (l := []) (Cls.ownNone (e := 73) (sz := 4) (Cls.ownNone (e := 98) (sz := 48) h))).rea (fun _ h => h) (by repeat (first | exact Rea.nil | (apply Rea.cons; (solve | (repeat (first | exact Del.here | apply Del.there))))))
        rintro ⟨i, z⟩ ⟨⟨⟨hi, hz⟩, hinv, hnd⟩, hrun⟩
        dsimp only at hi hz hinv hnd hrun ⊢
        have hnl := hinv.nl
        have hnz := hinv.nz
        dsimp only [PM.its, List.cons_append, List.nil_append]
        refine CW.seq (CW.rg (RL.p rfl (RL.nil (NQ.seq (CW.seq ?_)))))
        refine CW.cond rfl (fun hlt => ?_) (fun hlt => ?_)
        · have hlt' : i < n := by simp at hlt; omega
          have hx := List.getElem?_eq_getElem (show i < L.length by omega)
          rw [List.drop_eq_getElem_cons (show i < L.length by omega), runT_cons] at hrun
          generalize L[i]'(by omega) = s at hx hrun
          have hsl := hll s (List.mem_of_getElem? hx)
          have fS : RdI J ⟨bl, 0 + i * 1, none⟩ (strV s) := ⟨fun H => by have h := Rd.getS (H := H) (v := strV s) (j := i * 1) mL (by rw [show i * 1 = i by omega, List.getElem?_map, hx]; rfl); rwa [add_none] at h⟩
          refine CW.skip (NQ.seq (CW.seq (CW.block (CW.seq (CW.rg (RL.p rfl (RL.idxAt (j := i) Tryz.runUnderlying62 Tryz.sizeOf9 rfl rfl rfl rfl rfl rfl (hlt') (RL.loadq Tryz.isAgg9 rfl rfl rfl rfl ?_))))))))
          refine RL.p rfl (RL.p rfl (RL.nil (NQ.seq (CW.seq (CW.region (ef := [5]) (bk := [5]) (RL.p rfl (RL.callvq (gsays_any s) Tryz.call45 rfl rfl rfl rfl ?_)))))))
          refine RL.p rfl ?_
          refine RL.part (d := 46) rfl (fun hs => ?_) (fun hs => ?_)
          · rw [if_pos hs] at hrun
            refine RL.p rfl (RL.p rfl (RL.call (line_any b3 mp z hz s hsl (by omega) (by omega)) Tryz.call46 rfl rfl rfl rfl rfl (by repeat (first | exact Pick.nil | apply Pick.take | apply Pick.leave)) (.inI mG .nil) (.inr rfl) ?_))
            rintro _ _ _ (⟨hq, rfl, rfl, rfl⟩ | ⟨z', hq, hz', rfl, rfl, rfl⟩)
            · rw [hq] at hrun
              have hrun : R = .inl (i + 1) := hrun.symm
              subst hrun
              refine RL.p rfl (RL.p rfl (RL.nil (NQ.seq (CW.ok [2, 5, 10, 11, 37, 38, 39, 51] rfl (CW.condT rfl (rfl) (CW.seq (CW.region (ef := [3]) (bk := [3]) (RL.loadW Tryz.isAgg35 Tryz.sizeOf35 rfl rfl rfl rfl (by repeat (first | exact List.Mem.head _ | apply List.Mem.tail)) (by first | rfl | assumption | (simp only [List.length_map]; assumption) | (simp only [List.length_map, List.length_replicate]; done) | (simp; done)) ?_))))))))
              refine RL.p rfl (RL.bx rfl (wrapV_i64 (by omega) (by omega)) ?_)
              refine RL.storeWq Tryz.sizeOf35 rfl rfl rfl rfl rfl rfl rfl ?_
              refine RL.p rfl (RL.p rfl (RL.nil (NQ.seq (CW.ret (RQ.block (RQ.seq (RQ.seq (RQ.block (RQ.seq (RQ.allNil (RQ.ownNone (e := 73) 4 (RQ.ownNone (e := 98) 48 ?_))))))))))))
              exact RQ.post (resW3 rfl rfl rfl rfl Tryz.isAgg35 Tryz.sizeOf35 (by repeat (first | exact List.Mem.head _ | apply List.Mem.tail)) rfl) (.keep (.keep (.keep (Split.none _)))) (PaR.no (k := i + 1) rfl)
            ·
              rw [hq] at hrun
              refine RL.p rfl (RL.p rfl (RL.nil (NQ.seq (CW.ok [2, 5, 10, 11, 37, 38, 39, 51] rfl (CW.condF rfl (rfl) (CW.skip (NQ.block (NQ.seq (CW.rg (RL.bx rfl (wrapV_i64 (by omega) (by omega)) ?_))))))))))
              refine RL.p rfl (RL.nil ?_)
              exact NQ.round (g := (i, z)) (i + 1, z') ⟨⟨⟨hlt', hz'⟩, stepT_inv hinv hsl hq, stepT_nodup hnd hq⟩, hrun⟩ (by show n - (i + 1) < n - i; omega) (.cons rfl (.cons rfl (.cons rfl (.cons rfl (.cons rfl (.cons rfl .nil)))))) (fun w h => h.rea (fun _ h => h) (by repeat (first | exact Rea.nil | (apply Rea.cons; (solve | (repeat (first | exact Del.here | apply Del.there)))))))
          · rw [if_neg (by rw [hs]; decide)] at hrun
            refine RL.p rfl (RL.p rfl (RL.p rfl (RL.p rfl (RL.p rfl (RL.nil (NQ.seq (CW.ok [2, 5, 10, 11, 37, 38, 39, 51] rfl (CW.condF rfl rfl (CW.skip (NQ.block (NQ.seq (CW.rg (RL.bx rfl (wrapV_i64 (by omega) (by omega)) ?_)))))))))))))
            refine RL.p rfl (RL.nil ?_)
            exact NQ.round (g := (i, z)) (i + 1, z) ⟨⟨⟨hlt', hz⟩, hinv.mono (Nat.le_succ _), hnd⟩, hrun⟩ (by show n - (i + 1) < n - i; omega) (.cons rfl (.cons rfl (.cons rfl (.cons rfl (.cons rfl (.cons rfl .nil)))))) (fun w h => h.rea (fun _ h => h) (by repeat (first | exact Rea.nil | (apply Rea.cons; (solve | (repeat (first | exact Del.here | apply Del.there)))))))
        · have hin : n = i := by simp at hlt; omega
          subst hin
          rw [List.drop_eq_nil_of_le (by omega)] at hrun
          have hrun : R = .inr (z.P, z.seen) := hrun.symm
          subst hrun
          have hps : ∀ j, (psC z.P (slO z.oa z.P.cf.L.length z.ca) (slO z.oz z.P.zs.length z.cz) mp)[0 + (45 + j)]? = [slO z.oz z.P.zs.length z.cz, .int .i64 z.P.de, .int .i64 z.P.ra, .int .i64 z.P.mo, .int .i64 z.P.sz, .map (some mp)][j]? := fun j => by
            rw [psC, List.getElem?_append_right (by rw [cf_len hz.cm]; omega), cf_len hz.cm, show 0 + (45 + j) - 45 = j by omega]
          have hpl : ∀ j u, (plC z.P (slO z.oa z.P.cf.L.length z.ca) (slO z.oz z.P.zs.length z.cz))[j]? = some u → (psC z.P (slO z.oa z.P.cf.L.length z.ca) (slO z.oz z.P.zs.length z.cz) mp)[0 + 0 + j]? = some u := fun j u hu => by
            rw [show 0 + 0 + j = j by omega, ps_pl, List.getElem?_append_left (List.getElem?_eq_some_iff.1 hu).1]; exact hu
          have hpll := pl_len hz.cm (slO z.oa z.P.cf.L.length z.ca) (slO z.oz z.P.zs.length z.cz)
          have hfit := hinv.fit (ZL := z.ZL) (by omega) hz.zl
          have hm9 := mapS_nine hnd
          refine CW.exit (XQ.seq (XQ.seq (XQ.hit (NQ.seq (CW.seq (CW.seq (CW.rg (RL.p rfl (RL.p rfl (RL.fieldAddr fa_124_1 rfl rfl rfl rfl (RL.load Tryz.isAgg122 rfl rfl rfl rfl (Rd.get (by repeat (first | exact List.Mem.head _ | apply List.Mem.tail)) (hps 5)) ?_)))))))))))
          refine RL.lenM Tryz.runUnderlying122 rfl rfl rfl rfl (MapAt.own (by repeat (first | exact List.Mem.head _ | apply List.Mem.tail))) rfl ?_
          refine RL.p rfl (RL.nil (NQ.seq (CW.ok [2, 5, 10, 61] rfl ?_)))
          refine CW.cond rfl (fun h9 => ?_) (fun h9 => ?_)
          · have h9' : ¬ allT z.seen = true := by rw [← hm9]; simp at h9; omega
            refine CW.seq (CW.region (ef := [1]) (bk := [1]) (RL.loadW Tryz.isAgg35 Tryz.sizeOf35 rfl rfl rfl rfl (by repeat (first | exact List.Mem.head _ | apply List.Mem.tail)) (by first | rfl | assumption | (simp only [List.length_map]; assumption) | (simp only [List.length_map, List.length_replicate]; done) | (simp; done)) ?_))
            refine RL.storeWq Tryz.sizeOf35 rfl rfl rfl rfl rfl rfl rfl ?_
            refine RL.p rfl (RL.p rfl (RL.nil (NQ.seq (CW.ret (RQ.seq (RQ.allNil (RQ.ownNone (e := 73) 4 (RQ.ownNone (e := 98) 48 (RQ.post (resW3 rfl rfl rfl rfl Tryz.isAgg35 Tryz.sizeOf35 (by repeat (first | exact List.Mem.head _ | apply List.Mem.tail)) rfl) (.keep (.keep (.keep (Split.none _)))) ?_)))))))))
            dsimp only
            rw [if_neg h9']
            exact PaR.no (k := 0) rfl
          · have h9' : allT z.seen = true := by rw [← hm9]; simp at h9; omega
            refine CW.skip (NQ.seq (CW.seq (CW.seq (CW.rg (RL.p rfl (RL.p rfl (RL.fieldAddr fa_124_0 rfl rfl rfl rfl (RL.loadA Tryz.isAgg35 Tryz.sizeOf35 rfl rfl rfl rfl (Rds.cel (by repeat (first | exact List.Mem.head _ | apply List.Mem.tail)) hpl) hpll ?_))))))))
            refine RL.callv (gcheck_any z.P z.oa z.oz z.ca z.cz z.ZL hfit) Tryz.call10 rfl rfl rfl rfl (Lend.own (by repeat (first | exact List.Mem.head _ | apply List.Mem.tail)) (Lend.own (by repeat (first | exact List.Mem.head _ | apply List.Mem.tail)) (lend_zn (by repeat (first | exact List.Mem.head _ | apply List.Mem.tail)) _ (fun _ h => h)))) ?_
            refine RL.p rfl (RL.nil (NQ.seq (CW.ok [2, 5, 10, 13] rfl (CW.seq (CW.rg (RL.p rfl (RL.p rfl (RL.nil (NQ.seq ?_)))))))))
            refine CW.cond rfl (fun he => ?_) (fun he => ?_)
            · have he' : ¬ z.P.ok = true := fun h => by rw [Pl.err, if_pos h] at he; simp at he
              refine CW.seq (CW.region (ef := [2]) (bk := [2]) (RL.loadW Tryz.isAgg35 Tryz.sizeOf35 rfl rfl rfl rfl (by repeat (first | exact List.Mem.head _ | apply List.Mem.tail)) (by first | rfl | assumption | (simp only [List.length_map]; assumption) | (simp only [List.length_map, List.length_replicate]; done) | (simp; done)) ?_))
              refine RL.p rfl (RL.storeWq Tryz.sizeOf35 rfl rfl rfl rfl rfl rfl rfl ?_)
              refine RL.p rfl (RL.p rfl (RL.nil (NQ.seq (CW.ok [2, 3, 4, 10] rfl (CW.ret (RQ.seq (RQ.allNil (RQ.ownNone (e := 73) 4 (RQ.ownNone (e := 98) 48 (RQ.post (resW3 rfl rfl rfl rfl Tryz.isAgg35 Tryz.sizeOf35 (by repeat (first | exact List.Mem.head _ | apply List.Mem.tail)) rfl) (.keep (.keep (.keep (Split.none _)))) ?_))))))))))
              dsimp only
              rw [if_pos h9', if_neg he']
              exact PaR.no (k := 0) (by rw [Pl.err, if_neg he']; rfl)
            · have he' : z.P.ok = true := by
                cases h : z.P.ok with
                | true => rfl
                | false => rw [Pl.err, h] at he; simp at he
              refine CW.skip (NQ.seq (CW.seq (CW.region (ef := [4]) (bk := [4]) (RL.p rfl (RL.p rfl (RL.fieldAddr fa_124_0 rfl rfl rfl rfl (RL.loadA Tryz.isAgg35 Tryz.sizeOf35 rfl rfl rfl rfl (Rds.cel (by repeat (first | exact List.Mem.head _ | apply List.Mem.tail)) hpl) hpll ?_)))))))
              refine RL.storeW Tryz.sizeOf35 rfl rfl rfl rfl rfl rfl rfl (pl_ones _ rfl rfl) (by repeat (first | exact Upd.here | apply Upd.there)) hpll rfl ?_
              refine RL.p rfl (RL.p rfl (RL.nil (NQ.seq (CW.ok [2, 3, 4] rfl (CW.ret (RQ.rea (H' := [cel b1 (plC z.P (slO z.oa z.P.cf.L.length z.ca) (slO z.oz z.P.zs.length z.cz)) 35, own z.oa z.ca 98 48 z.P.cf.L.length (z.P.cf.L.flatMap Sr.cells), own z.oz z.cz 73 4 z.P.zs.length (z.ZL.flatMap znO), allI (z.ZL.map znI)]) (fun _ h => h) (by repeat (first | exact Rea.nil | (apply Rea.cons; (solve | (repeat (first | exact Del.here | apply Del.there)))))) ?_))))))
              refine RQ.post (resW3 rfl rfl rfl rfl Tryz.isAgg35 Tryz.sizeOf35 (by repeat (first | exact List.Mem.head _ | apply List.Mem.tail)) hpll) (.drop (.keep (.keep (.keep .nil)))) ?_
              dsimp only
              rw [if_pos h9', if_pos he']
              exact ⟨z.oa, z.ca, z.oz, z.cz, z.ZL, hz.zl, rfl, rfl, rfl⟩
end Go.Proofs.YthndhipjfdgdfaaGreatDoor
