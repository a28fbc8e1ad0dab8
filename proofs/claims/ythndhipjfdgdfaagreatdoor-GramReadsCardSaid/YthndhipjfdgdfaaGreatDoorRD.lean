import Derived.Test.YthndhipjfdgdfaaGreatDoorRC
import Derived.Test.YthndhipjfdgdfaaGreatDoorPX
import Derived.Test.YthndhipjfdgdfaaGreatDoorOneT
set_option linter.unusedVariables false
set_option linter.unusedSimpArgs false
namespace Go.Proofs.YthndhipjfdgdfaaGreatDoor
open Go.PK
/-! ### What a line that stands once says -/
def manyL : List Nat := [3, 1, 4, 0, 2, 1, 0, 3, 1]
theorem keyL {s : Tx} {k : List B8} (h : keyT s = some k) : k.length = 32 := by
  rw [keyT] at h
  split at h
  · rw [← Option.some.inj h]; simp [keyB]
  · cases h
theorem keyX_len (s : Tx) : ((keyT s).getD (List.replicate 32 0#8)).length = 32 := by
  cases h : keyT s with
  | none => rfl
  | some k => exact keyL h
theorem nm_at {i : Nat} {nm : Tx} (h : nmL[i]? = some nm) (hi : i < 9) (h3 : nm ≠ nCommit) (h6 : nm ≠ nStride) : (i = 0 ∧ nm = nGravity) ∨ (i = 1 ∧ nm = nDrift) ∨ (i = 2 ∧ nm = nSlot) ∨ (i = 4 ∧ nm = nLock) ∨ (i = 5 ∧ nm = nGrace) ∨ (i = 7 ∧ nm = nClock) ∨ (i = 8 ∧ nm = nTrace) := by
  match i, hi, h with
  | 0, _, h => exact .inl ⟨rfl, (Option.some.inj h).symm⟩
  | 1, _, h => exact .inr (.inl ⟨rfl, (Option.some.inj h).symm⟩)
  | 2, _, h => exact .inr (.inr (.inl ⟨rfl, (Option.some.inj h).symm⟩))
  | 3, _, h => exact absurd (Option.some.inj h).symm h3
  | 4, _, h => exact .inr (.inr (.inr (.inl ⟨rfl, (Option.some.inj h).symm⟩)))
  | 5, _, h => exact .inr (.inr (.inr (.inr (.inl ⟨rfl, (Option.some.inj h).symm⟩))))
  | 6, _, h => exact absurd (Option.some.inj h).symm h6
  | 7, _, h => exact .inr (.inr (.inr (.inr (.inr (.inl ⟨rfl, (Option.some.inj h).symm⟩)))))
  | 8, _, h => exact .inr (.inr (.inr (.inr (.inr (.inr ⟨rfl, (Option.some.inj h).symm⟩)))))
theorem many_at {i : Nat} {nm : Tx} (h : nmL[i]? = some nm) (hi : i < 9) (h3 : nm ≠ nCommit) (h6 : nm ≠ nStride) : (nm = nGravity → manyL.getD i 0 = 3) ∧ (nm = nDrift → manyL.getD i 0 = 1) ∧ (nm = nSlot → manyL.getD i 0 = 4) ∧ (nm = nLock → manyL.getD i 0 = 2) ∧ (nm = nGrace → manyL.getD i 0 = 1) ∧ (nm = nClock → manyL.getD i 0 = 3) ∧ (nm = nTrace → manyL.getD i 0 = 1) ∧ 0 < manyL.getD i 0 := by
  rcases nm_at h hi h3 h6 with ⟨rfl, rfl⟩ | ⟨rfl, rfl⟩ | ⟨rfl, rfl⟩ | ⟨rfl, rfl⟩ | ⟨rfl, rfl⟩ | ⟨rfl, rfl⟩ | ⟨rfl, rfl⟩ <;> (refine ⟨fun h => ?_, fun h => ?_, fun h => ?_, fun h => ?_, fun h => ?_, fun h => ?_, fun h => ?_, by decide⟩ <;> first | rfl | exact absurd h (by decide))
theorem one_none {P : Pl} {nm : Tx} {w : List Tx} (h : ∀ j, j < 9 → nmL[j]? ≠ some nm) : oneT P nm w = none := by
  have k : ∀ j x, j < 9 → nmL[j]? = some x → ¬ nm = x := fun j x hj hx e => h j hj (by rw [e]; exact hx)
  unfold oneT
  rw [if_neg (k 0 _ (by decide) rfl), if_neg (k 1 _ (by decide) rfl), if_neg (k 2 _ (by decide) rfl), if_neg (k 3 _ (by decide) rfl), if_neg (k 4 _ (by decide) rfl), if_neg (k 5 _ (by decide) rfl), if_neg (k 6 _ (by decide) rfl), if_neg (k 7 _ (by decide) rfl), if_neg (k 8 _ (by decide) rfl)]
/-- Not as many numbers as there should be. -/
theorem one_bad {P : Pl} {nm : Tx} {w : List Tx} {i : Nat} (hn : nmL[i]? = some nm) (hi : i < 9) (h3 : nm ≠ nCommit) (h6 : nm ≠ nStride) (h : ¬ ((numsL w).isSome && decide (w.length = manyL.getD i 0)) = true) : oneT P nm w = none := by
  have key : ∀ m, manyL.getD i 0 = m → ∀ l, numsL w = some l → l.length ≠ m := fun m hm l hl e => h (by rw [hl, hm, ← e, numsL_len' hl]; simp)
  rcases nm_at hn hi h3 h6 with ⟨rfl, rfl⟩ | ⟨rfl, rfl⟩ | ⟨rfl, rfl⟩ | ⟨rfl, rfl⟩ | ⟨rfl, rfl⟩ | ⟨rfl, rfl⟩ | ⟨rfl, rfl⟩
  · rw [one_grav]
    have k := key 3 rfl
    split
    · next a b c e => exact absurd rfl (k _ e)
    · rfl
  · rw [one_drift]
    have k := key 1 rfl
    split
    · next a e => exact absurd rfl (k _ e)
    · rfl
  · rw [one_slot]
    have k := key 4 rfl
    split
    · next a b c d e => exact absurd rfl (k _ e)
    · rfl
  · rw [one_lock]
    have k := key 2 rfl
    split
    · next a b e => exact absurd rfl (k _ e)
    · rfl
  · rw [one_grace]
    have k := key 1 rfl
    split
    · next a e => exact absurd rfl (k _ e)
    · rfl
  · rw [one_clock]
    have k := key 3 rfl
    split
    · next a b c e => exact absurd rfl (k _ e)
    · rfl
  · rw [one_trace]
    have k := key 1 rfl
    split
    · next a e => exact absurd rfl (k _ e)
    · rfl
theorem one_good {w : List Tx} {m : Nat} (h : ((numsL w).isSome && decide (w.length = m)) = true) : ∃ l, numsL w = some l ∧ l.length = m ∧ w.length = m := by
  rw [Bool.and_eq_true, decide_eq_true_eq] at h
  obtain ⟨l, hl⟩ := Option.isSome_iff_exists.1 h.1
  exact ⟨l, hl, by rw [numsL_len' hl]; exact h.2, h.2⟩
theorem zns_ones (L : List ZO) : ∀ u ∈ L.flatMap znO, u.oneCell' = true := fun u hu => by
  obtain ⟨z, _, hz⟩ := List.mem_flatMap.1 hu
  exact ones_spec (ones_zn z) u hz
theorem len1 {α : Type} {l : List α} (h : l.length = 1) : ∃ a, l = [a] := by
  match l, h with
  | [a], _ => exact ⟨a, rfl⟩
theorem len2 {α : Type} {l : List α} (h : l.length = 2) : ∃ a b, l = [a, b] := by
  match l, h with
  | [a, b], _ => exact ⟨a, b, rfl⟩
theorem len3 {α : Type} {l : List α} (h : l.length = 3) : ∃ a b c, l = [a, b, c] := by
  match l, h with
  | [a, b, c], _ => exact ⟨a, b, c, rfl⟩
theorem len4 {α : Type} {l : List α} (h : l.length = 4) : ∃ a b c d, l = [a, b, c, d] := by
  match l, h with
  | [a, b, c, d], _ => exact ⟨a, b, c, d, rfl⟩
end Go.Proofs.YthndhipjfdgdfaaGreatDoor

namespace Go.Proofs.YthndhipjfdgdfaaGreatDoor
open Go.PK
/-! ### The reference reads a line -/
def LineR (P : Pl) (oa oz : Option Nat) (ca cz : Nat) (ZL : List ZO) (nm : Tx) (w : List Tx) : Value → List It → List It → Prop := fun v I' H' =>
  (nm = nSource ∧ ∃ (r : Sr) (ob : Option Nat) (cap : Nat), r.rt.length = 32 ∧ v = .tuple #[.agg (plC P (slO ob (P.cf.L.length + 1) cap) (slO oz P.zs.length cz)).toArray, .bool (srcT w).isSome] ∧ (∀ s, srcT w = some s → r = s) ∧ I' = [] ∧ H' = [own ob cap 108 48 (P.cf.L.length + 1) (P.cf.L.flatMap Sr.cells ++ r.cells)]) ∨
  (nm = nZone ∧ ∃ (z : Zn) (oc : Option Nat) (cc : Nat) (ob : Option Nat) (cap : Nat), v = .tuple #[.agg (plC P (slO oa P.cf.L.length ca) (slO ob (P.zs.length + 1) cap)).toArray, .bool (zonT w).isSome] ∧ (∀ s, zonT w = some s → z = s) ∧ I' = [] ∧ H' = [own ob cap 77 4 (P.zs.length + 1) (ZL.flatMap znO ++ znO (z, oc, cc)), own oc cc 79 2 z.L.length (z.L.flatMap Pt.cells)]) ∨
  ((nm ≠ nSource ∧ nm ≠ nZone) ∧ ∃ Q : Pl, (Q.cf.cm.length = 32 ∧ Q.cf.L = P.cf.L ∧ Q.zs = P.zs) ∧ v = .tuple #[.agg (plC Q (slO oa P.cf.L.length ca) (slO oz P.zs.length cz)).toArray, .bool (oneT P nm w).isSome] ∧ (∀ q, oneT P nm w = some q → Q = q) ∧ I' = [] ∧ H' = [])
theorem rline_any (P : Pl) (oa oz : Option Nat) (ca cz n m mw cw : Nat) (ZL : List ZO) (nm : Tx) (w : List Tx) (pw : Option Addr) (hn : P.cf.L.length = n) (hm : P.zs.length = m) (hzl : ZL.length = P.zs.length) (hcm : P.cf.cm.length = 32) (hrt : ∀ s ∈ P.cf.L, s.rt.length = 32) (hnl : n ≤ 1000000) (hnz : m ≤ 1000000) (hw : (nm :: w).length = mw) (hc : mw ≤ cw) (hb : mw ≤ 1000000) :
    Spc Tryz.prog 50 #[.agg (plC P (slO oa n ca) (slO oz m cz)).toArray, .slice pw mw cw] [sls pw 1 mw ((nm :: w).map strV), sls (oa.map fun b => ⟨b, 0, none⟩) 48 n (P.cf.L.flatMap Sr.cells), sls (oz.map fun b => ⟨b, 0, none⟩) 4 m (ZL.flatMap znO)] [] (LineR P oa oz ca cz ZL nm w) := by
  subst hn hm
  have hpl := pl_len hcm (slO oa P.cf.L.length ca) (slO oz P.zs.length cz)
  have hpr := fun sl zl => pl_len (P := P) hcm sl zl
  have hlen : ∀ Q : Pl, Q.cf.cm = P.cf.cm → ∀ sl zl, (plC Q sl zl).length = 50 := fun Q h => pl_len (by rw [h]; exact hcm)
  have hle : ∀ {Q : Pl} {sl zl : Value} {k : Nat}, k ≤ 50 → Q.cf.cm = P.cf.cm → k ≤ (plC Q sl zl).length := fun h e => by rw [hlen _ e]; exact h
  refine Spc.enter Tryz.func50 rfl rfl rfl (fun w0 hw0 => ?_)
  refine CW.seq (CW.region (ef := [0, 1]) (bk := []) (RL.box rfl rfl rfl rfl rfl rfl ?_))
  intro b1
  refine RL.alloc Tryz.zeroValue43 rfl rfl rfl rfl rfl ?_
  intro b2
  refine RL.p rfl (RL.nil (NQ.seq (CW.seq (CW.seq ?_))))
  refine CW.genI (fun J hJ => ?_)
  have mW : sls pw 1 mw ((nm :: w).map strV) ∈ J := hJ _ (by simp)
  have mA : sls (oa.map fun b => ⟨b, 0, none⟩) 48 P.cf.L.length (P.cf.L.flatMap Sr.cells) ∈ J := hJ _ (by simp)
  have mZ : sls (oz.map fun b => ⟨b, 0, none⟩) 4 P.zs.length (ZL.flatMap znO) ∈ J := hJ _ (by simp)
  clear hJ
  refine CW.fact (p := pw = none → mw = 0) (fun w hC e => sls_nil (hC.s.i _ mW) e) (fun hpa => ?_)
  have hwl : w.length + 1 = mw := by rw [← hw]; rfl
  cases pw with
  | none => exact absurd (hpa rfl) (by omega)
  | some q =>
  have f0 : RdI J (q.add (0 * 1)) (strV nm) := ⟨fun H => Rd.getS (H := H) (v := strV nm) (j := 0 * 1) mW rfl⟩
  refine CW.rg (RL.p rfl (RL.idx (j := 0) Tryz.runUnderlying62 Tryz.sizeOf9 rfl rfl rfl rfl rfl rfl (by omega) ?_))
  refine RL.loadq Tryz.isAgg9 rfl rfl rfl rfl ?_
  refine RL.nil (NQ.seq (CW.block (CW.seq (CW.rg (RL.cmp rfl rfl rfl rfl rfl (fun w => eql_txt nm nSource w) ?_)))))
  refine RL.p rfl (RL.nil (NQ.seq ?_))
  have lB : ∀ H, Lend J H [sls (if cw = 1 then some q else (some q).map (·.add (1 * 1))) 1 (mw - 1) (w.map strV)] := fun H => by
    have h := Lend.subP (F := H) (lo := 1) (k := mw - 1) mW (by omega) hc .nil
    have e : (((nm :: w).map strV).drop (1 * 1)).take ((mw - 1) * 1) = w.map strV := by
      show (w.map strV).take ((mw - 1) * 1) = _
      rw [List.take_of_length_le (by rw [List.length_map]; omega)]
    rw [e] at h
    exact h
  refine CW.cond rfl (fun hS => ?_) (fun hS => ?_)
  ·
    have hS' : nm = nSource := by simpa using hS
    have hso := rsource_any w (if cw = 1 then some q else (some q).map (·.add (1 * 1))) (cw - 1) (mw - 1) (by omega) (by omega) (by omega)
    refine CW.seq (CW.region (ef := [2, 6, 7]) (bk := [7]) (RL.p rfl (RL.slice (lo := 1) (hi := mw) Tryz.runUnderlying62 Tryz.sizeOf9 rfl rfl rfl rfl rfl rfl (by omega) hc ?_)))
    refine RL.call (hso) Tryz.call82 rfl rfl rfl rfl rfl (by repeat (first | exact Pick.nil | apply Pick.take | apply Pick.leave)) (lB _) (.inl rfl) ?_
    rintro _ _ _ ⟨r, hr, rfl, hrs, rfl, rfl⟩
    have hrl := sr_len hr
    refine RL.p rfl (RL.p rfl (RL.p rfl (RL.alloc Tryz.zeroValue108 rfl rfl rfl rfl rfl ?_)))
    intro b3
    refine RL.storeW Tryz.sizeOf108 rfl rfl rfl rfl rfl rfl rfl (sr_ones _) (by repeat (first | exact Upd.here | apply Upd.there)) hrl rfl ?_
    refine RL.p rfl (RL.nil (NQ.seq (CW.ok [1, 2, 4, 6, 7] rfl (CW.seq ?_))))
    refine CW.cutG (γ := Option Nat × Nat) (fun _ => True) (fun g => [(2, .pointer (some ⟨b1, 0, none⟩)), (4, .pointer (some ⟨b2, 0, none⟩)), (7, .bool (srcT w).isSome)]) (fun _ => J) (fun g => [cel b1 (plC P (slO g.1 (P.cf.L.length + 1) g.2) (slO oz P.zs.length cz)) 43, own g.1 g.2 108 48 (P.cf.L.length + 1) (P.cf.L.flatMap Sr.cells ++ r.cells), cel b2 (plC zeroPl (.slice none 0 0) (.slice none 0 0)) 43]) ?_ ?_
    ·
      refine CW.regionD (.cons 1 (.cons 2 (.cons 3 (.fork [0, 5] (fun k => (bif Nat.beq k 0 then (.fork [4, 5] (fun k => (bif Nat.beq k 4 then (Sq.of [5, 6, 7, 8, 9, 10]) else (.fork [4, 6] (fun k => (bif Nat.beq k 4 then (Sq.of [6, 7, 8, 9, 10]) else (Sq.of [4, 7, 8, 9, 10]))))))) else (.fork [0, 6] (fun k => (bif Nat.beq k 0 then (.fork [4, 6] (fun k => (bif Nat.beq k 4 then (Sq.of [6, 7, 8, 9, 10]) else (Sq.of [4, 7, 8, 9, 10])))) else (Sq.of [0, 4, 7, 8, 9, 10])))))))))) [0, 4, 6, 7, 10] [4, 7, 10] [1, 2, 8, 9] mixed (by kernel_rfl) ?_
      refine RL.fieldAddr fa_43_0 rfl rfl rfl rfl (RL.fieldAddr fa_40_0 rfl rfl rfl rfl (RL.load Tryz.isAgg37 rfl rfl rfl rfl (Rd.cel (by repeat (first | exact List.Mem.head _ | apply List.Mem.tail)) rfl) ?_))
      refine RL.fork ⟨?_, ?_, trivial⟩
      ·
        refine RL.buildOwn [] Tryz.runUnderlying37 Tryz.sizeOf108 Tryz.zeroValue108 rfl rfl (by decide) (by decide) rfl (by decide) rfl rfl rfl rfl rfl rfl ?_
        intro oq
        refine RL.fork ⟨?_, ?_, trivial⟩
        ·
          refine RL.appendA el_37 rfl rfl rfl rfl rfl rfl rfl (by first | exact ⟨(.take (Pick.none _)), rfl⟩ | exact ⟨(.leave (.take (Pick.none _))), rfl⟩ | exact ⟨(.leave (.leave (.take (Pick.none _)))), rfl⟩ | exact ⟨(.leave (.leave (.leave (.take (Pick.none _))))), rfl⟩ | exact ⟨(.leave (.leave (.leave (.leave (.take (Pick.none _)))))), rfl⟩ | exact ⟨(.leave (.leave (.leave (.leave (.leave (.take (Pick.none _))))))), rfl⟩ | exact ⟨(.leave (.leave (.leave (.leave (.leave (.leave (.take (Pick.none _)))))))), rfl⟩ | exact ⟨(.leave (.leave (.leave (.leave (.leave (.leave (.leave (.take (Pick.none _))))))))), rfl⟩ | exact ⟨(.leave (.leave (.leave (.leave (.leave (.leave (.leave (.leave (.take (Pick.none _)))))))))), rfl⟩ | exact ⟨(.leave (.leave (.leave (.leave (.leave (.leave (.leave (.leave (.leave (.take (Pick.none _))))))))))), rfl⟩) (Src.sls mA) (srs_ones _) (by first | omega | (simp only [maxLen]; omega)) (by first | omega | (simp only [maxLen]; omega)) ?_
          intro od1 cd1 hd1
          refine RL.loadW Tryz.isAgg108 Tryz.sizeOf108 rfl rfl rfl rfl (by repeat (first | exact List.Mem.head _ | apply List.Mem.tail)) hrl ?_
          refine RL.buildSlice r.cells Tryz.runUnderlying37 Tryz.sizeOf108 Tryz.zeroValue108 rfl rfl (by decide) (by decide) rfl rfl rfl rfl rfl (fill_one48 hrl rfl) ?_
          intro bx
          refine RL.appendA el_37 rfl rfl rfl rfl rfl rfl rfl (by first | exact ⟨(.take (Pick.none _)), rfl⟩ | exact ⟨(.leave (.take (Pick.none _))), rfl⟩ | exact ⟨(.leave (.leave (.take (Pick.none _)))), rfl⟩ | exact ⟨(.leave (.leave (.leave (.take (Pick.none _))))), rfl⟩ | exact ⟨(.leave (.leave (.leave (.leave (.take (Pick.none _)))))), rfl⟩ | exact ⟨(.leave (.leave (.leave (.leave (.leave (.take (Pick.none _))))))), rfl⟩ | exact ⟨(.leave (.leave (.leave (.leave (.leave (.leave (.take (Pick.none _)))))))), rfl⟩ | exact ⟨(.leave (.leave (.leave (.leave (.leave (.leave (.leave (.take (Pick.none _))))))))), rfl⟩ | exact ⟨(.leave (.leave (.leave (.leave (.leave (.leave (.leave (.leave (.take (Pick.none _)))))))))), rfl⟩ | exact ⟨(.leave (.leave (.leave (.leave (.leave (.leave (.leave (.leave (.leave (.take (Pick.none _))))))))))), rfl⟩) (Src.cel (cs := r.cells) (by repeat (first | exact List.Mem.head _ | apply List.Mem.tail)) hrl) (ones_spec (sr_ones _)) (by first | omega | (simp only [maxLen]; omega)) (by first | omega | (simp only [maxLen]; omega)) ?_
          intro od2 cd2 hd2
          refine RL.fieldAddr fa_43_0 rfl rfl rfl rfl (RL.fieldAddr fa_40_0 rfl rfl rfl rfl (RL.storeX (vs := [_]) (sp_sl _ _ _ _) Tryz.sizeOf37 rfl rfl rfl rfl rfl rfl rfl rfl (by repeat (first | exact Upd.here | apply Upd.there)) (by rw [hpl]; exact Nat.le_of_ble_eq_true rfl) ?_))
          refine RL.nil ?_
          exact NQ.midG (od2, cd2) trivial (.cons (k := 2) rfl (.cons (k := 4) rfl (.cons rfl .nil))) (fun w h => by simp only [Nat.zero_add, List.nil_append] at h; exact h.rea (fun _ h => h) (by repeat (first | exact Rea.nil | (apply Rea.cons; (solve | (repeat (first | exact Del.here | apply Del.there)))))))
        ·
          refine RL.loadW Tryz.isAgg108 Tryz.sizeOf108 rfl rfl rfl rfl (by repeat (first | exact List.Mem.head _ | apply List.Mem.tail)) hrl ?_
          refine RL.fork ⟨?_, ?_, trivial⟩
          ·
            refine RL.appendA el_37 rfl rfl rfl rfl rfl rfl rfl (by first | exact ⟨(.take (Pick.none _)), rfl⟩ | exact ⟨(.leave (.take (Pick.none _))), rfl⟩ | exact ⟨(.leave (.leave (.take (Pick.none _)))), rfl⟩ | exact ⟨(.leave (.leave (.leave (.take (Pick.none _))))), rfl⟩ | exact ⟨(.leave (.leave (.leave (.leave (.take (Pick.none _)))))), rfl⟩ | exact ⟨(.leave (.leave (.leave (.leave (.leave (.take (Pick.none _))))))), rfl⟩ | exact ⟨(.leave (.leave (.leave (.leave (.leave (.leave (.take (Pick.none _)))))))), rfl⟩ | exact ⟨(.leave (.leave (.leave (.leave (.leave (.leave (.leave (.take (Pick.none _))))))))), rfl⟩ | exact ⟨(.leave (.leave (.leave (.leave (.leave (.leave (.leave (.leave (.take (Pick.none _)))))))))), rfl⟩ | exact ⟨(.leave (.leave (.leave (.leave (.leave (.leave (.leave (.leave (.leave (.take (Pick.none _))))))))))), rfl⟩) (Src.sls mA) (srs_ones _) (by first | omega | (simp only [maxLen]; omega)) (by first | omega | (simp only [maxLen]; omega)) ?_
            intro od1 cd1 hd1
            refine RL.buildSlice r.cells Tryz.runUnderlying37 Tryz.sizeOf108 Tryz.zeroValue108 rfl rfl (by decide) (by decide) rfl rfl rfl rfl rfl (fill_one48 hrl rfl) ?_
            intro bx
            refine RL.appendA el_37 rfl rfl rfl rfl rfl rfl rfl (by first | exact ⟨(.take (Pick.none _)), rfl⟩ | exact ⟨(.leave (.take (Pick.none _))), rfl⟩ | exact ⟨(.leave (.leave (.take (Pick.none _)))), rfl⟩ | exact ⟨(.leave (.leave (.leave (.take (Pick.none _))))), rfl⟩ | exact ⟨(.leave (.leave (.leave (.leave (.take (Pick.none _)))))), rfl⟩ | exact ⟨(.leave (.leave (.leave (.leave (.leave (.take (Pick.none _))))))), rfl⟩ | exact ⟨(.leave (.leave (.leave (.leave (.leave (.leave (.take (Pick.none _)))))))), rfl⟩ | exact ⟨(.leave (.leave (.leave (.leave (.leave (.leave (.leave (.take (Pick.none _))))))))), rfl⟩ | exact ⟨(.leave (.leave (.leave (.leave (.leave (.leave (.leave (.leave (.take (Pick.none _)))))))))), rfl⟩ | exact ⟨(.leave (.leave (.leave (.leave (.leave (.leave (.leave (.leave (.leave (.take (Pick.none _))))))))))), rfl⟩) (Src.cel (cs := r.cells) (by repeat (first | exact List.Mem.head _ | apply List.Mem.tail)) hrl) (ones_spec (sr_ones _)) (by first | omega | (simp only [maxLen]; omega)) (by first | omega | (simp only [maxLen]; omega)) ?_
            intro od2 cd2 hd2
            refine RL.fieldAddr fa_43_0 rfl rfl rfl rfl (RL.fieldAddr fa_40_0 rfl rfl rfl rfl (RL.storeX (vs := [_]) (sp_sl _ _ _ _) Tryz.sizeOf37 rfl rfl rfl rfl rfl rfl rfl rfl (by repeat (first | exact Upd.here | apply Upd.there)) (by rw [hpl]; exact Nat.le_of_ble_eq_true rfl) ?_))
            refine RL.nil ?_
            exact NQ.midG (od2, cd2) trivial (.cons (k := 2) rfl (.cons (k := 4) rfl (.cons rfl .nil))) (fun w h => by simp only [Nat.zero_add, List.nil_append] at h; exact h.rea (fun _ h => h) (by repeat (first | exact Rea.nil | (apply Rea.cons; (solve | (repeat (first | exact Del.here | apply Del.there)))))))
          ·
            refine RL.buildSlice r.cells Tryz.runUnderlying37 Tryz.sizeOf108 Tryz.zeroValue108 rfl rfl (by decide) (by decide) rfl rfl rfl rfl rfl (fill_one48 hrl rfl) ?_
            intro bx
            refine RL.appendA el_37 rfl rfl rfl rfl rfl rfl rfl (by first | exact ⟨(.take (Pick.none _)), rfl⟩ | exact ⟨(.leave (.take (Pick.none _))), rfl⟩ | exact ⟨(.leave (.leave (.take (Pick.none _)))), rfl⟩ | exact ⟨(.leave (.leave (.leave (.take (Pick.none _))))), rfl⟩ | exact ⟨(.leave (.leave (.leave (.leave (.take (Pick.none _)))))), rfl⟩ | exact ⟨(.leave (.leave (.leave (.leave (.leave (.take (Pick.none _))))))), rfl⟩ | exact ⟨(.leave (.leave (.leave (.leave (.leave (.leave (.take (Pick.none _)))))))), rfl⟩ | exact ⟨(.leave (.leave (.leave (.leave (.leave (.leave (.leave (.take (Pick.none _))))))))), rfl⟩ | exact ⟨(.leave (.leave (.leave (.leave (.leave (.leave (.leave (.leave (.take (Pick.none _)))))))))), rfl⟩ | exact ⟨(.leave (.leave (.leave (.leave (.leave (.leave (.leave (.leave (.leave (.take (Pick.none _))))))))))), rfl⟩) (Src.sls mA) (srs_ones _) (by first | omega | (simp only [maxLen]; omega)) (by first | omega | (simp only [maxLen]; omega)) ?_
            intro od1 cd1 hd1
            refine RL.appendA el_37 rfl rfl rfl rfl rfl rfl rfl (by first | exact ⟨(.take (Pick.none _)), rfl⟩ | exact ⟨(.leave (.take (Pick.none _))), rfl⟩ | exact ⟨(.leave (.leave (.take (Pick.none _)))), rfl⟩ | exact ⟨(.leave (.leave (.leave (.take (Pick.none _))))), rfl⟩ | exact ⟨(.leave (.leave (.leave (.leave (.take (Pick.none _)))))), rfl⟩ | exact ⟨(.leave (.leave (.leave (.leave (.leave (.take (Pick.none _))))))), rfl⟩ | exact ⟨(.leave (.leave (.leave (.leave (.leave (.leave (.take (Pick.none _)))))))), rfl⟩ | exact ⟨(.leave (.leave (.leave (.leave (.leave (.leave (.leave (.take (Pick.none _))))))))), rfl⟩ | exact ⟨(.leave (.leave (.leave (.leave (.leave (.leave (.leave (.leave (.take (Pick.none _)))))))))), rfl⟩ | exact ⟨(.leave (.leave (.leave (.leave (.leave (.leave (.leave (.leave (.leave (.take (Pick.none _))))))))))), rfl⟩) (Src.cel (cs := r.cells) (by repeat (first | exact List.Mem.head _ | apply List.Mem.tail)) hrl) (ones_spec (sr_ones _)) (by first | omega | (simp only [maxLen]; omega)) (by first | omega | (simp only [maxLen]; omega)) ?_
            intro od2 cd2 hd2
            refine RL.fieldAddr fa_43_0 rfl rfl rfl rfl (RL.fieldAddr fa_40_0 rfl rfl rfl rfl (RL.storeX (vs := [_]) (sp_sl _ _ _ _) Tryz.sizeOf37 rfl rfl rfl rfl rfl rfl rfl rfl (by repeat (first | exact Upd.here | apply Upd.there)) (by rw [hpl]; exact Nat.le_of_ble_eq_true rfl) ?_))
            refine RL.nil ?_
            exact NQ.midG (od2, cd2) trivial (.cons (k := 2) rfl (.cons (k := 4) rfl (.cons rfl .nil))) (fun w h => by simp only [Nat.zero_add, List.nil_append] at h; exact h.rea (fun _ h => h) (by repeat (first | exact Rea.nil | (apply Rea.cons; (solve | (repeat (first | exact Del.here | apply Del.there)))))))
      ·
        refine RL.loadW Tryz.isAgg108 Tryz.sizeOf108 rfl rfl rfl rfl (by repeat (first | exact List.Mem.head _ | apply List.Mem.tail)) hrl ?_
        refine RL.fork ⟨?_, ?_, trivial⟩
        ·
          refine RL.buildOwn [] Tryz.runUnderlying37 Tryz.sizeOf108 Tryz.zeroValue108 rfl rfl (by decide) (by decide) rfl (by decide) rfl rfl rfl rfl rfl rfl ?_
          intro oq
          refine RL.fork ⟨?_, ?_, trivial⟩
          ·
            refine RL.appendA el_37 rfl rfl rfl rfl rfl rfl rfl (by first | exact ⟨(.take (Pick.none _)), rfl⟩ | exact ⟨(.leave (.take (Pick.none _))), rfl⟩ | exact ⟨(.leave (.leave (.take (Pick.none _)))), rfl⟩ | exact ⟨(.leave (.leave (.leave (.take (Pick.none _))))), rfl⟩ | exact ⟨(.leave (.leave (.leave (.leave (.take (Pick.none _)))))), rfl⟩ | exact ⟨(.leave (.leave (.leave (.leave (.leave (.take (Pick.none _))))))), rfl⟩ | exact ⟨(.leave (.leave (.leave (.leave (.leave (.leave (.take (Pick.none _)))))))), rfl⟩ | exact ⟨(.leave (.leave (.leave (.leave (.leave (.leave (.leave (.take (Pick.none _))))))))), rfl⟩ | exact ⟨(.leave (.leave (.leave (.leave (.leave (.leave (.leave (.leave (.take (Pick.none _)))))))))), rfl⟩ | exact ⟨(.leave (.leave (.leave (.leave (.leave (.leave (.leave (.leave (.leave (.take (Pick.none _))))))))))), rfl⟩) (Src.sls mA) (srs_ones _) (by first | omega | (simp only [maxLen]; omega)) (by first | omega | (simp only [maxLen]; omega)) ?_
            intro od1 cd1 hd1
            refine RL.buildSlice r.cells Tryz.runUnderlying37 Tryz.sizeOf108 Tryz.zeroValue108 rfl rfl (by decide) (by decide) rfl rfl rfl rfl rfl (fill_one48 hrl rfl) ?_
            intro bx
            refine RL.appendA el_37 rfl rfl rfl rfl rfl rfl rfl (by first | exact ⟨(.take (Pick.none _)), rfl⟩ | exact ⟨(.leave (.take (Pick.none _))), rfl⟩ | exact ⟨(.leave (.leave (.take (Pick.none _)))), rfl⟩ | exact ⟨(.leave (.leave (.leave (.take (Pick.none _))))), rfl⟩ | exact ⟨(.leave (.leave (.leave (.leave (.take (Pick.none _)))))), rfl⟩ | exact ⟨(.leave (.leave (.leave (.leave (.leave (.take (Pick.none _))))))), rfl⟩ | exact ⟨(.leave (.leave (.leave (.leave (.leave (.leave (.take (Pick.none _)))))))), rfl⟩ | exact ⟨(.leave (.leave (.leave (.leave (.leave (.leave (.leave (.take (Pick.none _))))))))), rfl⟩ | exact ⟨(.leave (.leave (.leave (.leave (.leave (.leave (.leave (.leave (.take (Pick.none _)))))))))), rfl⟩ | exact ⟨(.leave (.leave (.leave (.leave (.leave (.leave (.leave (.leave (.leave (.take (Pick.none _))))))))))), rfl⟩) (Src.cel (cs := r.cells) (by repeat (first | exact List.Mem.head _ | apply List.Mem.tail)) hrl) (ones_spec (sr_ones _)) (by first | omega | (simp only [maxLen]; omega)) (by first | omega | (simp only [maxLen]; omega)) ?_
            intro od2 cd2 hd2
            refine RL.fieldAddr fa_43_0 rfl rfl rfl rfl (RL.fieldAddr fa_40_0 rfl rfl rfl rfl (RL.storeX (vs := [_]) (sp_sl _ _ _ _) Tryz.sizeOf37 rfl rfl rfl rfl rfl rfl rfl rfl (by repeat (first | exact Upd.here | apply Upd.there)) (by rw [hpl]; exact Nat.le_of_ble_eq_true rfl) ?_))
            refine RL.nil ?_
            exact NQ.midG (od2, cd2) trivial (.cons (k := 2) rfl (.cons (k := 4) rfl (.cons rfl .nil))) (fun w h => by simp only [Nat.zero_add, List.nil_append] at h; exact h.rea (fun _ h => h) (by repeat (first | exact Rea.nil | (apply Rea.cons; (solve | (repeat (first | exact Del.here | apply Del.there)))))))
          ·
            refine RL.buildSlice r.cells Tryz.runUnderlying37 Tryz.sizeOf108 Tryz.zeroValue108 rfl rfl (by decide) (by decide) rfl rfl rfl rfl rfl (fill_one48 hrl rfl) ?_
            intro bx
            refine RL.appendA el_37 rfl rfl rfl rfl rfl rfl rfl (by first | exact ⟨(.take (Pick.none _)), rfl⟩ | exact ⟨(.leave (.take (Pick.none _))), rfl⟩ | exact ⟨(.leave (.leave (.take (Pick.none _)))), rfl⟩ | exact ⟨(.leave (.leave (.leave (.take (Pick.none _))))), rfl⟩ | exact ⟨(.leave (.leave (.leave (.leave (.take (Pick.none _)))))), rfl⟩ | exact ⟨(.leave (.leave (.leave (.leave (.leave (.take (Pick.none _))))))), rfl⟩ | exact ⟨(.leave (.leave (.leave (.leave (.leave (.leave (.take (Pick.none _)))))))), rfl⟩ | exact ⟨(.leave (.leave (.leave (.leave (.leave (.leave (.leave (.take (Pick.none _))))))))), rfl⟩ | exact ⟨(.leave (.leave (.leave (.leave (.leave (.leave (.leave (.leave (.take (Pick.none _)))))))))), rfl⟩ | exact ⟨(.leave (.leave (.leave (.leave (.leave (.leave (.leave (.leave (.leave (.take (Pick.none _))))))))))), rfl⟩) (Src.sls mA) (srs_ones _) (by first | omega | (simp only [maxLen]; omega)) (by first | omega | (simp only [maxLen]; omega)) ?_
            intro od1 cd1 hd1
            refine RL.appendA el_37 rfl rfl rfl rfl rfl rfl rfl (by first | exact ⟨(.take (Pick.none _)), rfl⟩ | exact ⟨(.leave (.take (Pick.none _))), rfl⟩ | exact ⟨(.leave (.leave (.take (Pick.none _)))), rfl⟩ | exact ⟨(.leave (.leave (.leave (.take (Pick.none _))))), rfl⟩ | exact ⟨(.leave (.leave (.leave (.leave (.take (Pick.none _)))))), rfl⟩ | exact ⟨(.leave (.leave (.leave (.leave (.leave (.take (Pick.none _))))))), rfl⟩ | exact ⟨(.leave (.leave (.leave (.leave (.leave (.leave (.take (Pick.none _)))))))), rfl⟩ | exact ⟨(.leave (.leave (.leave (.leave (.leave (.leave (.leave (.take (Pick.none _))))))))), rfl⟩ | exact ⟨(.leave (.leave (.leave (.leave (.leave (.leave (.leave (.leave (.take (Pick.none _)))))))))), rfl⟩ | exact ⟨(.leave (.leave (.leave (.leave (.leave (.leave (.leave (.leave (.leave (.take (Pick.none _))))))))))), rfl⟩) (Src.cel (cs := r.cells) (by repeat (first | exact List.Mem.head _ | apply List.Mem.tail)) hrl) (ones_spec (sr_ones _)) (by first | omega | (simp only [maxLen]; omega)) (by first | omega | (simp only [maxLen]; omega)) ?_
            intro od2 cd2 hd2
            refine RL.fieldAddr fa_43_0 rfl rfl rfl rfl (RL.fieldAddr fa_40_0 rfl rfl rfl rfl (RL.storeX (vs := [_]) (sp_sl _ _ _ _) Tryz.sizeOf37 rfl rfl rfl rfl rfl rfl rfl rfl (by repeat (first | exact Upd.here | apply Upd.there)) (by rw [hpl]; exact Nat.le_of_ble_eq_true rfl) ?_))
            refine RL.nil ?_
            exact NQ.midG (od2, cd2) trivial (.cons (k := 2) rfl (.cons (k := 4) rfl (.cons rfl .nil))) (fun w h => by simp only [Nat.zero_add, List.nil_append] at h; exact h.rea (fun _ h => h) (by repeat (first | exact Rea.nil | (apply Rea.cons; (solve | (repeat (first | exact Del.here | apply Del.there)))))))
        ·
          refine RL.buildSlice r.cells Tryz.runUnderlying37 Tryz.sizeOf108 Tryz.zeroValue108 rfl rfl (by decide) (by decide) rfl rfl rfl rfl rfl (fill_one48 hrl rfl) ?_
          intro bx
          refine RL.buildOwn [] Tryz.runUnderlying37 Tryz.sizeOf108 Tryz.zeroValue108 rfl rfl (by decide) (by decide) rfl (by decide) rfl rfl rfl rfl rfl rfl ?_
          intro oq
          refine RL.appendA el_37 rfl rfl rfl rfl rfl rfl rfl (by first | exact ⟨(.take (Pick.none _)), rfl⟩ | exact ⟨(.leave (.take (Pick.none _))), rfl⟩ | exact ⟨(.leave (.leave (.take (Pick.none _)))), rfl⟩ | exact ⟨(.leave (.leave (.leave (.take (Pick.none _))))), rfl⟩ | exact ⟨(.leave (.leave (.leave (.leave (.take (Pick.none _)))))), rfl⟩ | exact ⟨(.leave (.leave (.leave (.leave (.leave (.take (Pick.none _))))))), rfl⟩ | exact ⟨(.leave (.leave (.leave (.leave (.leave (.leave (.take (Pick.none _)))))))), rfl⟩ | exact ⟨(.leave (.leave (.leave (.leave (.leave (.leave (.leave (.take (Pick.none _))))))))), rfl⟩ | exact ⟨(.leave (.leave (.leave (.leave (.leave (.leave (.leave (.leave (.take (Pick.none _)))))))))), rfl⟩ | exact ⟨(.leave (.leave (.leave (.leave (.leave (.leave (.leave (.leave (.leave (.take (Pick.none _))))))))))), rfl⟩) (Src.sls mA) (srs_ones _) (by first | omega | (simp only [maxLen]; omega)) (by first | omega | (simp only [maxLen]; omega)) ?_
          intro od1 cd1 hd1
          refine RL.appendA el_37 rfl rfl rfl rfl rfl rfl rfl (by first | exact ⟨(.take (Pick.none _)), rfl⟩ | exact ⟨(.leave (.take (Pick.none _))), rfl⟩ | exact ⟨(.leave (.leave (.take (Pick.none _)))), rfl⟩ | exact ⟨(.leave (.leave (.leave (.take (Pick.none _))))), rfl⟩ | exact ⟨(.leave (.leave (.leave (.leave (.take (Pick.none _)))))), rfl⟩ | exact ⟨(.leave (.leave (.leave (.leave (.leave (.take (Pick.none _))))))), rfl⟩ | exact ⟨(.leave (.leave (.leave (.leave (.leave (.leave (.take (Pick.none _)))))))), rfl⟩ | exact ⟨(.leave (.leave (.leave (.leave (.leave (.leave (.leave (.take (Pick.none _))))))))), rfl⟩ | exact ⟨(.leave (.leave (.leave (.leave (.leave (.leave (.leave (.leave (.take (Pick.none _)))))))))), rfl⟩ | exact ⟨(.leave (.leave (.leave (.leave (.leave (.leave (.leave (.leave (.leave (.take (Pick.none _))))))))))), rfl⟩) (Src.cel (cs := r.cells) (by repeat (first | exact List.Mem.head _ | apply List.Mem.tail)) hrl) (ones_spec (sr_ones _)) (by first | omega | (simp only [maxLen]; omega)) (by first | omega | (simp only [maxLen]; omega)) ?_
          intro od2 cd2 hd2
          refine RL.fieldAddr fa_43_0 rfl rfl rfl rfl (RL.fieldAddr fa_40_0 rfl rfl rfl rfl (RL.storeX (vs := [_]) (sp_sl _ _ _ _) Tryz.sizeOf37 rfl rfl rfl rfl rfl rfl rfl rfl (by repeat (first | exact Upd.here | apply Upd.there)) (by rw [hpl]; exact Nat.le_of_ble_eq_true rfl) ?_))
          refine RL.nil ?_
          exact NQ.midG (od2, cd2) trivial (.cons (k := 2) rfl (.cons (k := 4) rfl (.cons rfl .nil))) (fun w h => by simp only [Nat.zero_add, List.nil_append] at h; exact h.rea (fun _ h => h) (by repeat (first | exact Rea.nil | (apply Rea.cons; (solve | (repeat (first | exact Del.here | apply Del.there)))))))
    rintro ⟨oq, cq⟩ -
    dsimp only
    refine CW.seq (CW.region (ef := [2]) (bk := [2]) (RL.loadW Tryz.isAgg43 Tryz.sizeOf43 rfl rfl rfl rfl (by repeat (first | exact List.Mem.head _ | apply List.Mem.tail)) (hpr _ _) ?_))
    refine RL.p rfl (RL.storeW Tryz.sizeOf43 rfl rfl rfl rfl rfl rfl rfl (pl_ones _ rfl rfl) (by repeat (first | exact Upd.here | apply Upd.there)) (hpr _ _) rfl ?_)
    refine RL.p rfl (RL.nil (NQ.seq (CW.ret (RQ.block (RQ.seq (RQ.rea (fun _ h => h) (H' := [own oq cq 108 48 (P.cf.L.length + 1) (P.cf.L.flatMap Sr.cells ++ r.cells), cel b2 (plC P (slO oq (P.cf.L.length + 1) cq) (slO oz P.zs.length cz)) 43]) (by repeat (first | exact Rea.nil | (apply Rea.cons; (solve | (repeat (first | exact Del.here | apply Del.there)))))) ?_))))))
    exact RQ.post (resWT rfl rfl rfl Tryz.isAgg43 Tryz.sizeOf43 (by repeat (first | exact List.Mem.head _ | apply List.Mem.tail)) (hpr _ _)) (.keep (Split.none _)) (.inl ⟨hS', r, oq, cq, hr, rfl, hrs, rfl, rfl⟩)
  ·
    have hS' : ¬ nm = nSource := by simpa using hS
    refine CW.seq (CW.rg (RL.cmp rfl rfl rfl rfl rfl (fun w => eql_txt nm nZone w) ?_))
    refine RL.p rfl (RL.nil (NQ.seq (CW.ok [1, 2, 4, 5, 21, 42] rfl ?_)))
    refine CW.cond rfl (fun hZ => ?_) (fun hZ => ?_)
    ·
      have hZ' : nm = nZone := by simpa using hZ
      have hzo := rzone_any w (if cw = 1 then some q else (some q).map (·.add (1 * 1))) (cw - 1) (mw - 1) (by omega) (by omega) (by omega)
      refine CW.seq (CW.region (ef := [2, 6, 7]) (bk := [7]) (RL.p rfl (RL.slice (lo := 1) (hi := mw) Tryz.runUnderlying62 Tryz.sizeOf9 rfl rfl rfl rfl rfl rfl (by omega) hc ?_)))
      refine RL.call (hzo) Tryz.call83 rfl rfl rfl rfl rfl (by repeat (first | exact Pick.nil | apply Pick.take | apply Pick.leave)) (lB _) (.inl rfl) ?_
      rintro _ _ _ ⟨z, oc, cc, rfl, hzs, rfl, rfl⟩
      refine RL.p rfl (RL.p rfl (RL.p rfl (RL.alloc Tryz.zeroValue77 rfl rfl rfl rfl rfl ?_)))
      intro b3
      refine RL.storeW Tryz.sizeOf77 rfl rfl rfl rfl rfl rfl rfl (ones_zn (z, oc, cc)) (by repeat (first | exact Upd.here | apply Upd.there)) rfl rfl ?_
      refine RL.p rfl (RL.nil (NQ.seq (CW.ok [1, 2, 4, 8, 9] rfl (CW.seq ?_))))
      refine CW.cutG (γ := Option Nat × Nat) (fun _ => True) (fun g => [(2, .pointer (some ⟨b1, 0, none⟩)), (4, .pointer (some ⟨b2, 0, none⟩)), (9, .bool (zonT w).isSome)]) (fun _ => J) (fun g => [cel b1 (plC P (slO oa P.cf.L.length ca) (slO g.1 (P.zs.length + 1) g.2)) 43, own g.1 g.2 77 4 (P.zs.length + 1) (ZL.flatMap znO ++ znO (z, oc, cc)), own oc cc 79 2 z.L.length (z.L.flatMap Pt.cells), cel b2 (plC zeroPl (.slice none 0 0) (.slice none 0 0)) 43]) ?_ ?_
      ·
        refine CW.regionD (.cons 1 (.cons 2 (.fork [0, 4] (fun k => (bif Nat.beq k 0 then (.fork [3, 4] (fun k => (bif Nat.beq k 3 then (Sq.of [4, 5, 6, 7, 8]) else (.fork [3, 5] (fun k => (bif Nat.beq k 3 then (Sq.of [5, 6, 7, 8]) else (Sq.of [3, 6, 7, 8]))))))) else (.fork [0, 5] (fun k => (bif Nat.beq k 0 then (.fork [3, 5] (fun k => (bif Nat.beq k 3 then (Sq.of [5, 6, 7, 8]) else (Sq.of [3, 6, 7, 8])))) else (Sq.of [0, 3, 6, 7, 8]))))))))) [0, 3, 5, 6, 8] [3, 6, 8] [1, 7] mixed (by kernel_rfl) ?_
        refine RL.fieldAddr fa_43_1 rfl rfl rfl rfl (RL.load Tryz.isAgg41 rfl rfl rfl rfl (Rd.get (by repeat (first | exact List.Mem.head _ | apply List.Mem.tail)) (pl_tl hcm _ _ 0)) ?_)
        refine RL.fork ⟨?_, ?_, trivial⟩
        ·
          refine RL.buildOwn [] Tryz.runUnderlying41 Tryz.sizeOf77 Tryz.zeroValue77 rfl rfl (by decide) (by decide) rfl (by decide) rfl rfl rfl rfl rfl rfl ?_
          intro oq
          refine RL.fork ⟨?_, ?_, trivial⟩
          ·
            refine RL.appendA el_41 rfl rfl rfl rfl rfl rfl rfl (by first | exact ⟨(.take (Pick.none _)), rfl⟩ | exact ⟨(.leave (.take (Pick.none _))), rfl⟩ | exact ⟨(.leave (.leave (.take (Pick.none _)))), rfl⟩ | exact ⟨(.leave (.leave (.leave (.take (Pick.none _))))), rfl⟩ | exact ⟨(.leave (.leave (.leave (.leave (.take (Pick.none _)))))), rfl⟩ | exact ⟨(.leave (.leave (.leave (.leave (.leave (.take (Pick.none _))))))), rfl⟩ | exact ⟨(.leave (.leave (.leave (.leave (.leave (.leave (.take (Pick.none _)))))))), rfl⟩ | exact ⟨(.leave (.leave (.leave (.leave (.leave (.leave (.leave (.take (Pick.none _))))))))), rfl⟩ | exact ⟨(.leave (.leave (.leave (.leave (.leave (.leave (.leave (.leave (.take (Pick.none _)))))))))), rfl⟩ | exact ⟨(.leave (.leave (.leave (.leave (.leave (.leave (.leave (.leave (.leave (.take (Pick.none _))))))))))), rfl⟩) (Src.sls mZ) (zns_ones _) (by first | omega | (simp only [maxLen]; omega)) (by first | omega | (simp only [maxLen]; omega)) ?_
            intro od1 cd1 hd1
            refine RL.loadW Tryz.isAgg77 Tryz.sizeOf77 rfl rfl rfl rfl (by repeat (first | exact List.Mem.head _ | apply List.Mem.tail)) rfl ?_
            refine RL.buildSlice (znO (z, oc, cc)) Tryz.runUnderlying41 Tryz.sizeOf77 Tryz.zeroValue77 rfl rfl (by decide) (by decide) rfl rfl rfl rfl rfl (fill_one4 rfl) ?_
            intro bx
            refine RL.appendA el_41 rfl rfl rfl rfl rfl rfl rfl (by first | exact ⟨(.take (Pick.none _)), rfl⟩ | exact ⟨(.leave (.take (Pick.none _))), rfl⟩ | exact ⟨(.leave (.leave (.take (Pick.none _)))), rfl⟩ | exact ⟨(.leave (.leave (.leave (.take (Pick.none _))))), rfl⟩ | exact ⟨(.leave (.leave (.leave (.leave (.take (Pick.none _)))))), rfl⟩ | exact ⟨(.leave (.leave (.leave (.leave (.leave (.take (Pick.none _))))))), rfl⟩ | exact ⟨(.leave (.leave (.leave (.leave (.leave (.leave (.take (Pick.none _)))))))), rfl⟩ | exact ⟨(.leave (.leave (.leave (.leave (.leave (.leave (.leave (.take (Pick.none _))))))))), rfl⟩ | exact ⟨(.leave (.leave (.leave (.leave (.leave (.leave (.leave (.leave (.take (Pick.none _)))))))))), rfl⟩ | exact ⟨(.leave (.leave (.leave (.leave (.leave (.leave (.leave (.leave (.leave (.take (Pick.none _))))))))))), rfl⟩) (Src.cel (cs := znO (z, oc, cc)) (by repeat (first | exact List.Mem.head _ | apply List.Mem.tail)) rfl) (ones_spec (ones_zn _)) (by first | omega | (simp only [maxLen]; omega)) (by first | omega | (simp only [maxLen]; omega)) ?_
            intro od2 cd2 hd2
            refine RL.fieldAddr fa_43_1 rfl rfl rfl rfl (RL.storeX (vs := [_]) (sp_zl hcm _ _ _) Tryz.sizeOf41 rfl rfl rfl rfl rfl rfl rfl rfl (by repeat (first | exact Upd.here | apply Upd.there)) (by rw [hpl]; exact Nat.le_of_ble_eq_true rfl) ?_)
            refine RL.nil ?_
            exact NQ.midG (od2, cd2) trivial (.cons (k := 2) rfl (.cons (k := 4) rfl (.cons rfl .nil))) (fun w h => by simp only [Nat.zero_add, List.nil_append] at h; exact h.rea (fun _ h => h) (by repeat (first | exact Rea.nil | (apply Rea.cons; (solve | (repeat (first | exact Del.here | apply Del.there)))))))
          ·
            refine RL.loadW Tryz.isAgg77 Tryz.sizeOf77 rfl rfl rfl rfl (by repeat (first | exact List.Mem.head _ | apply List.Mem.tail)) rfl ?_
            refine RL.fork ⟨?_, ?_, trivial⟩
            ·
              refine RL.appendA el_41 rfl rfl rfl rfl rfl rfl rfl (by first | exact ⟨(.take (Pick.none _)), rfl⟩ | exact ⟨(.leave (.take (Pick.none _))), rfl⟩ | exact ⟨(.leave (.leave (.take (Pick.none _)))), rfl⟩ | exact ⟨(.leave (.leave (.leave (.take (Pick.none _))))), rfl⟩ | exact ⟨(.leave (.leave (.leave (.leave (.take (Pick.none _)))))), rfl⟩ | exact ⟨(.leave (.leave (.leave (.leave (.leave (.take (Pick.none _))))))), rfl⟩ | exact ⟨(.leave (.leave (.leave (.leave (.leave (.leave (.take (Pick.none _)))))))), rfl⟩ | exact ⟨(.leave (.leave (.leave (.leave (.leave (.leave (.leave (.take (Pick.none _))))))))), rfl⟩ | exact ⟨(.leave (.leave (.leave (.leave (.leave (.leave (.leave (.leave (.take (Pick.none _)))))))))), rfl⟩ | exact ⟨(.leave (.leave (.leave (.leave (.leave (.leave (.leave (.leave (.leave (.take (Pick.none _))))))))))), rfl⟩) (Src.sls mZ) (zns_ones _) (by first | omega | (simp only [maxLen]; omega)) (by first | omega | (simp only [maxLen]; omega)) ?_
              intro od1 cd1 hd1
              refine RL.buildSlice (znO (z, oc, cc)) Tryz.runUnderlying41 Tryz.sizeOf77 Tryz.zeroValue77 rfl rfl (by decide) (by decide) rfl rfl rfl rfl rfl (fill_one4 rfl) ?_
              intro bx
              refine RL.appendA el_41 rfl rfl rfl rfl rfl rfl rfl (by first | exact ⟨(.take (Pick.none _)), rfl⟩ | exact ⟨(.leave (.take (Pick.none _))), rfl⟩ | exact ⟨(.leave (.leave (.take (Pick.none _)))), rfl⟩ | exact ⟨(.leave (.leave (.leave (.take (Pick.none _))))), rfl⟩ | exact ⟨(.leave (.leave (.leave (.leave (.take (Pick.none _)))))), rfl⟩ | exact ⟨(.leave (.leave (.leave (.leave (.leave (.take (Pick.none _))))))), rfl⟩ | exact ⟨(.leave (.leave (.leave (.leave (.leave (.leave (.take (Pick.none _)))))))), rfl⟩ | exact ⟨(.leave (.leave (.leave (.leave (.leave (.leave (.leave (.take (Pick.none _))))))))), rfl⟩ | exact ⟨(.leave (.leave (.leave (.leave (.leave (.leave (.leave (.leave (.take (Pick.none _)))))))))), rfl⟩ | exact ⟨(.leave (.leave (.leave (.leave (.leave (.leave (.leave (.leave (.leave (.take (Pick.none _))))))))))), rfl⟩) (Src.cel (cs := znO (z, oc, cc)) (by repeat (first | exact List.Mem.head _ | apply List.Mem.tail)) rfl) (ones_spec (ones_zn _)) (by first | omega | (simp only [maxLen]; omega)) (by first | omega | (simp only [maxLen]; omega)) ?_
              intro od2 cd2 hd2
              refine RL.fieldAddr fa_43_1 rfl rfl rfl rfl (RL.storeX (vs := [_]) (sp_zl hcm _ _ _) Tryz.sizeOf41 rfl rfl rfl rfl rfl rfl rfl rfl (by repeat (first | exact Upd.here | apply Upd.there)) (by rw [hpl]; exact Nat.le_of_ble_eq_true rfl) ?_)
              refine RL.nil ?_
              exact NQ.midG (od2, cd2) trivial (.cons (k := 2) rfl (.cons (k := 4) rfl (.cons rfl .nil))) (fun w h => by simp only [Nat.zero_add, List.nil_append] at h; exact h.rea (fun _ h => h) (by repeat (first | exact Rea.nil | (apply Rea.cons; (solve | (repeat (first | exact Del.here | apply Del.there)))))))
            ·
              refine RL.buildSlice (znO (z, oc, cc)) Tryz.runUnderlying41 Tryz.sizeOf77 Tryz.zeroValue77 rfl rfl (by decide) (by decide) rfl rfl rfl rfl rfl (fill_one4 rfl) ?_
              intro bx
              refine RL.appendA el_41 rfl rfl rfl rfl rfl rfl rfl (by first | exact ⟨(.take (Pick.none _)), rfl⟩ | exact ⟨(.leave (.take (Pick.none _))), rfl⟩ | exact ⟨(.leave (.leave (.take (Pick.none _)))), rfl⟩ | exact ⟨(.leave (.leave (.leave (.take (Pick.none _))))), rfl⟩ | exact ⟨(.leave (.leave (.leave (.leave (.take (Pick.none _)))))), rfl⟩ | exact ⟨(.leave (.leave (.leave (.leave (.leave (.take (Pick.none _))))))), rfl⟩ | exact ⟨(.leave (.leave (.leave (.leave (.leave (.leave (.take (Pick.none _)))))))), rfl⟩ | exact ⟨(.leave (.leave (.leave (.leave (.leave (.leave (.leave (.take (Pick.none _))))))))), rfl⟩ | exact ⟨(.leave (.leave (.leave (.leave (.leave (.leave (.leave (.leave (.take (Pick.none _)))))))))), rfl⟩ | exact ⟨(.leave (.leave (.leave (.leave (.leave (.leave (.leave (.leave (.leave (.take (Pick.none _))))))))))), rfl⟩) (Src.sls mZ) (zns_ones _) (by first | omega | (simp only [maxLen]; omega)) (by first | omega | (simp only [maxLen]; omega)) ?_
              intro od1 cd1 hd1
              refine RL.appendA el_41 rfl rfl rfl rfl rfl rfl rfl (by first | exact ⟨(.take (Pick.none _)), rfl⟩ | exact ⟨(.leave (.take (Pick.none _))), rfl⟩ | exact ⟨(.leave (.leave (.take (Pick.none _)))), rfl⟩ | exact ⟨(.leave (.leave (.leave (.take (Pick.none _))))), rfl⟩ | exact ⟨(.leave (.leave (.leave (.leave (.take (Pick.none _)))))), rfl⟩ | exact ⟨(.leave (.leave (.leave (.leave (.leave (.take (Pick.none _))))))), rfl⟩ | exact ⟨(.leave (.leave (.leave (.leave (.leave (.leave (.take (Pick.none _)))))))), rfl⟩ | exact ⟨(.leave (.leave (.leave (.leave (.leave (.leave (.leave (.take (Pick.none _))))))))), rfl⟩ | exact ⟨(.leave (.leave (.leave (.leave (.leave (.leave (.leave (.leave (.take (Pick.none _)))))))))), rfl⟩ | exact ⟨(.leave (.leave (.leave (.leave (.leave (.leave (.leave (.leave (.leave (.take (Pick.none _))))))))))), rfl⟩) (Src.cel (cs := znO (z, oc, cc)) (by repeat (first | exact List.Mem.head _ | apply List.Mem.tail)) rfl) (ones_spec (ones_zn _)) (by first | omega | (simp only [maxLen]; omega)) (by first | omega | (simp only [maxLen]; omega)) ?_
              intro od2 cd2 hd2
              refine RL.fieldAddr fa_43_1 rfl rfl rfl rfl (RL.storeX (vs := [_]) (sp_zl hcm _ _ _) Tryz.sizeOf41 rfl rfl rfl rfl rfl rfl rfl rfl (by repeat (first | exact Upd.here | apply Upd.there)) (by rw [hpl]; exact Nat.le_of_ble_eq_true rfl) ?_)
              refine RL.nil ?_
              exact NQ.midG (od2, cd2) trivial (.cons (k := 2) rfl (.cons (k := 4) rfl (.cons rfl .nil))) (fun w h => by simp only [Nat.zero_add, List.nil_append] at h; exact h.rea (fun _ h => h) (by repeat (first | exact Rea.nil | (apply Rea.cons; (solve | (repeat (first | exact Del.here | apply Del.there)))))))
        ·
          refine RL.loadW Tryz.isAgg77 Tryz.sizeOf77 rfl rfl rfl rfl (by repeat (first | exact List.Mem.head _ | apply List.Mem.tail)) rfl ?_
          refine RL.fork ⟨?_, ?_, trivial⟩
          ·
            refine RL.buildOwn [] Tryz.runUnderlying41 Tryz.sizeOf77 Tryz.zeroValue77 rfl rfl (by decide) (by decide) rfl (by decide) rfl rfl rfl rfl rfl rfl ?_
            intro oq
            refine RL.fork ⟨?_, ?_, trivial⟩
            ·
              refine RL.appendA el_41 rfl rfl rfl rfl rfl rfl rfl (by first | exact ⟨(.take (Pick.none _)), rfl⟩ | exact ⟨(.leave (.take (Pick.none _))), rfl⟩ | exact ⟨(.leave (.leave (.take (Pick.none _)))), rfl⟩ | exact ⟨(.leave (.leave (.leave (.take (Pick.none _))))), rfl⟩ | exact ⟨(.leave (.leave (.leave (.leave (.take (Pick.none _)))))), rfl⟩ | exact ⟨(.leave (.leave (.leave (.leave (.leave (.take (Pick.none _))))))), rfl⟩ | exact ⟨(.leave (.leave (.leave (.leave (.leave (.leave (.take (Pick.none _)))))))), rfl⟩ | exact ⟨(.leave (.leave (.leave (.leave (.leave (.leave (.leave (.take (Pick.none _))))))))), rfl⟩ | exact ⟨(.leave (.leave (.leave (.leave (.leave (.leave (.leave (.leave (.take (Pick.none _)))))))))), rfl⟩ | exact ⟨(.leave (.leave (.leave (.leave (.leave (.leave (.leave (.leave (.leave (.take (Pick.none _))))))))))), rfl⟩) (Src.sls mZ) (zns_ones _) (by first | omega | (simp only [maxLen]; omega)) (by first | omega | (simp only [maxLen]; omega)) ?_
              intro od1 cd1 hd1
              refine RL.buildSlice (znO (z, oc, cc)) Tryz.runUnderlying41 Tryz.sizeOf77 Tryz.zeroValue77 rfl rfl (by decide) (by decide) rfl rfl rfl rfl rfl (fill_one4 rfl) ?_
              intro bx
              refine RL.appendA el_41 rfl rfl rfl rfl rfl rfl rfl (by first | exact ⟨(.take (Pick.none _)), rfl⟩ | exact ⟨(.leave (.take (Pick.none _))), rfl⟩ | exact ⟨(.leave (.leave (.take (Pick.none _)))), rfl⟩ | exact ⟨(.leave (.leave (.leave (.take (Pick.none _))))), rfl⟩ | exact ⟨(.leave (.leave (.leave (.leave (.take (Pick.none _)))))), rfl⟩ | exact ⟨(.leave (.leave (.leave (.leave (.leave (.take (Pick.none _))))))), rfl⟩ | exact ⟨(.leave (.leave (.leave (.leave (.leave (.leave (.take (Pick.none _)))))))), rfl⟩ | exact ⟨(.leave (.leave (.leave (.leave (.leave (.leave (.leave (.take (Pick.none _))))))))), rfl⟩ | exact ⟨(.leave (.leave (.leave (.leave (.leave (.leave (.leave (.leave (.take (Pick.none _)))))))))), rfl⟩ | exact ⟨(.leave (.leave (.leave (.leave (.leave (.leave (.leave (.leave (.leave (.take (Pick.none _))))))))))), rfl⟩) (Src.cel (cs := znO (z, oc, cc)) (by repeat (first | exact List.Mem.head _ | apply List.Mem.tail)) rfl) (ones_spec (ones_zn _)) (by first | omega | (simp only [maxLen]; omega)) (by first | omega | (simp only [maxLen]; omega)) ?_
              intro od2 cd2 hd2
              refine RL.fieldAddr fa_43_1 rfl rfl rfl rfl (RL.storeX (vs := [_]) (sp_zl hcm _ _ _) Tryz.sizeOf41 rfl rfl rfl rfl rfl rfl rfl rfl (by repeat (first | exact Upd.here | apply Upd.there)) (by rw [hpl]; exact Nat.le_of_ble_eq_true rfl) ?_)
              refine RL.nil ?_
              exact NQ.midG (od2, cd2) trivial (.cons (k := 2) rfl (.cons (k := 4) rfl (.cons rfl .nil))) (fun w h => by simp only [Nat.zero_add, List.nil_append] at h; exact h.rea (fun _ h => h) (by repeat (first | exact Rea.nil | (apply Rea.cons; (solve | (repeat (first | exact Del.here | apply Del.there)))))))
            ·
              refine RL.buildSlice (znO (z, oc, cc)) Tryz.runUnderlying41 Tryz.sizeOf77 Tryz.zeroValue77 rfl rfl (by decide) (by decide) rfl rfl rfl rfl rfl (fill_one4 rfl) ?_
              intro bx
              refine RL.appendA el_41 rfl rfl rfl rfl rfl rfl rfl (by first | exact ⟨(.take (Pick.none _)), rfl⟩ | exact ⟨(.leave (.take (Pick.none _))), rfl⟩ | exact ⟨(.leave (.leave (.take (Pick.none _)))), rfl⟩ | exact ⟨(.leave (.leave (.leave (.take (Pick.none _))))), rfl⟩ | exact ⟨(.leave (.leave (.leave (.leave (.take (Pick.none _)))))), rfl⟩ | exact ⟨(.leave (.leave (.leave (.leave (.leave (.take (Pick.none _))))))), rfl⟩ | exact ⟨(.leave (.leave (.leave (.leave (.leave (.leave (.take (Pick.none _)))))))), rfl⟩ | exact ⟨(.leave (.leave (.leave (.leave (.leave (.leave (.leave (.take (Pick.none _))))))))), rfl⟩ | exact ⟨(.leave (.leave (.leave (.leave (.leave (.leave (.leave (.leave (.take (Pick.none _)))))))))), rfl⟩ | exact ⟨(.leave (.leave (.leave (.leave (.leave (.leave (.leave (.leave (.leave (.take (Pick.none _))))))))))), rfl⟩) (Src.sls mZ) (zns_ones _) (by first | omega | (simp only [maxLen]; omega)) (by first | omega | (simp only [maxLen]; omega)) ?_
              intro od1 cd1 hd1
              refine RL.appendA el_41 rfl rfl rfl rfl rfl rfl rfl (by first | exact ⟨(.take (Pick.none _)), rfl⟩ | exact ⟨(.leave (.take (Pick.none _))), rfl⟩ | exact ⟨(.leave (.leave (.take (Pick.none _)))), rfl⟩ | exact ⟨(.leave (.leave (.leave (.take (Pick.none _))))), rfl⟩ | exact ⟨(.leave (.leave (.leave (.leave (.take (Pick.none _)))))), rfl⟩ | exact ⟨(.leave (.leave (.leave (.leave (.leave (.take (Pick.none _))))))), rfl⟩ | exact ⟨(.leave (.leave (.leave (.leave (.leave (.leave (.take (Pick.none _)))))))), rfl⟩ | exact ⟨(.leave (.leave (.leave (.leave (.leave (.leave (.leave (.take (Pick.none _))))))))), rfl⟩ | exact ⟨(.leave (.leave (.leave (.leave (.leave (.leave (.leave (.leave (.take (Pick.none _)))))))))), rfl⟩ | exact ⟨(.leave (.leave (.leave (.leave (.leave (.leave (.leave (.leave (.leave (.take (Pick.none _))))))))))), rfl⟩) (Src.cel (cs := znO (z, oc, cc)) (by repeat (first | exact List.Mem.head _ | apply List.Mem.tail)) rfl) (ones_spec (ones_zn _)) (by first | omega | (simp only [maxLen]; omega)) (by first | omega | (simp only [maxLen]; omega)) ?_
              intro od2 cd2 hd2
              refine RL.fieldAddr fa_43_1 rfl rfl rfl rfl (RL.storeX (vs := [_]) (sp_zl hcm _ _ _) Tryz.sizeOf41 rfl rfl rfl rfl rfl rfl rfl rfl (by repeat (first | exact Upd.here | apply Upd.there)) (by rw [hpl]; exact Nat.le_of_ble_eq_true rfl) ?_)
              refine RL.nil ?_
              exact NQ.midG (od2, cd2) trivial (.cons (k := 2) rfl (.cons (k := 4) rfl (.cons rfl .nil))) (fun w h => by simp only [Nat.zero_add, List.nil_append] at h; exact h.rea (fun _ h => h) (by repeat (first | exact Rea.nil | (apply Rea.cons; (solve | (repeat (first | exact Del.here | apply Del.there)))))))
          ·
            refine RL.buildSlice (znO (z, oc, cc)) Tryz.runUnderlying41 Tryz.sizeOf77 Tryz.zeroValue77 rfl rfl (by decide) (by decide) rfl rfl rfl rfl rfl (fill_one4 rfl) ?_
            intro bx
            refine RL.buildOwn [] Tryz.runUnderlying41 Tryz.sizeOf77 Tryz.zeroValue77 rfl rfl (by decide) (by decide) rfl (by decide) rfl rfl rfl rfl rfl rfl ?_
            intro oq
            refine RL.appendA el_41 rfl rfl rfl rfl rfl rfl rfl (by first | exact ⟨(.take (Pick.none _)), rfl⟩ | exact ⟨(.leave (.take (Pick.none _))), rfl⟩ | exact ⟨(.leave (.leave (.take (Pick.none _)))), rfl⟩ | exact ⟨(.leave (.leave (.leave (.take (Pick.none _))))), rfl⟩ | exact ⟨(.leave (.leave (.leave (.leave (.take (Pick.none _)))))), rfl⟩ | exact ⟨(.leave (.leave (.leave (.leave (.leave (.take (Pick.none _))))))), rfl⟩ | exact ⟨(.leave (.leave (.leave (.leave (.leave (.leave (.take (Pick.none _)))))))), rfl⟩ | exact ⟨(.leave (.leave (.leave (.leave (.leave (.leave (.leave (.take (Pick.none _))))))))), rfl⟩ | exact ⟨(.leave (.leave (.leave (.leave (.leave (.leave (.leave (.leave (.take (Pick.none _)))))))))), rfl⟩ | exact ⟨(.leave (.leave (.leave (.leave (.leave (.leave (.leave (.leave (.leave (.take (Pick.none _))))))))))), rfl⟩) (Src.sls mZ) (zns_ones _) (by first | omega | (simp only [maxLen]; omega)) (by first | omega | (simp only [maxLen]; omega)) ?_
            intro od1 cd1 hd1
            refine RL.appendA el_41 rfl rfl rfl rfl rfl rfl rfl (by first | exact ⟨(.take (Pick.none _)), rfl⟩ | exact ⟨(.leave (.take (Pick.none _))), rfl⟩ | exact ⟨(.leave (.leave (.take (Pick.none _)))), rfl⟩ | exact ⟨(.leave (.leave (.leave (.take (Pick.none _))))), rfl⟩ | exact ⟨(.leave (.leave (.leave (.leave (.take (Pick.none _)))))), rfl⟩ | exact ⟨(.leave (.leave (.leave (.leave (.leave (.take (Pick.none _))))))), rfl⟩ | exact ⟨(.leave (.leave (.leave (.leave (.leave (.leave (.take (Pick.none _)))))))), rfl⟩ | exact ⟨(.leave (.leave (.leave (.leave (.leave (.leave (.leave (.take (Pick.none _))))))))), rfl⟩ | exact ⟨(.leave (.leave (.leave (.leave (.leave (.leave (.leave (.leave (.take (Pick.none _)))))))))), rfl⟩ | exact ⟨(.leave (.leave (.leave (.leave (.leave (.leave (.leave (.leave (.leave (.take (Pick.none _))))))))))), rfl⟩) (Src.cel (cs := znO (z, oc, cc)) (by repeat (first | exact List.Mem.head _ | apply List.Mem.tail)) rfl) (ones_spec (ones_zn _)) (by first | omega | (simp only [maxLen]; omega)) (by first | omega | (simp only [maxLen]; omega)) ?_
            intro od2 cd2 hd2
            refine RL.fieldAddr fa_43_1 rfl rfl rfl rfl (RL.storeX (vs := [_]) (sp_zl hcm _ _ _) Tryz.sizeOf41 rfl rfl rfl rfl rfl rfl rfl rfl (by repeat (first | exact Upd.here | apply Upd.there)) (by rw [hpl]; exact Nat.le_of_ble_eq_true rfl) ?_)
            refine RL.nil ?_
            exact NQ.midG (od2, cd2) trivial (.cons (k := 2) rfl (.cons (k := 4) rfl (.cons rfl .nil))) (fun w h => by simp only [Nat.zero_add, List.nil_append] at h; exact h.rea (fun _ h => h) (by repeat (first | exact Rea.nil | (apply Rea.cons; (solve | (repeat (first | exact Del.here | apply Del.there)))))))
      rintro ⟨oq, cq⟩ -
      dsimp only
      refine CW.seq (CW.region (ef := [2]) (bk := [2]) (RL.loadW Tryz.isAgg43 Tryz.sizeOf43 rfl rfl rfl rfl (by repeat (first | exact List.Mem.head _ | apply List.Mem.tail)) (hpr _ _) ?_))
      refine RL.p rfl (RL.storeW Tryz.sizeOf43 rfl rfl rfl rfl rfl rfl rfl (pl_ones _ rfl rfl) (by repeat (first | exact Upd.here | apply Upd.there)) (hpr _ _) rfl ?_)
      refine RL.p rfl (RL.nil (NQ.seq (CW.ret (RQ.block (RQ.seq (RQ.rea (fun _ h => h) (H' := [own oq cq 77 4 (P.zs.length + 1) (ZL.flatMap znO ++ znO (z, oc, cc)), own oc cc 79 2 z.L.length (z.L.flatMap Pt.cells), cel b2 (plC P (slO oa P.cf.L.length ca) (slO oq (P.zs.length + 1) cq)) 43]) (by repeat (first | exact Rea.nil | (apply Rea.cons; (solve | (repeat (first | exact Del.here | apply Del.there)))))) ?_))))))
      exact RQ.post (resWT rfl rfl rfl Tryz.isAgg43 Tryz.sizeOf43 (by repeat (first | exact List.Mem.head _ | apply List.Mem.tail)) (hpr _ _)) (.keep (.keep (Split.none _))) (.inr (.inl ⟨hZ', z, oc, cc, oq, cq, rfl, hzs, rfl, rfl⟩))
    · have hZ' : ¬ nm = nZone := by simpa using hZ
      have hsz : nm ≠ nSource ∧ nm ≠ nZone := ⟨hS', hZ'⟩
      refine CW.seq (CW.rg (RL.cmp rfl rfl rfl rfl rfl (fun w => eql_txt nm nCommit w) ?_))
      refine RL.p rfl (RL.nil (NQ.seq ?_))
      refine CW.cond rfl (fun hC => ?_) (fun hC => ?_)
      ·
        have hC' : nm = nCommit := by simpa using hC
        subst hC'
        refine CW.seq (CW.seq (CW.rg (RL.p rfl (RL.lenS Tryz.runUnderlying62 rfl rfl rfl rfl (RL.p rfl (RL.nil (NQ.seq (CW.ok [1, 2, 4, 5, 64] rfl ?_))))))))
        refine CW.cond rfl (fun h2 => ?_) (fun h2 => ?_)
        · have h2' : w.length ≠ 1 := by simp at h2; omega
          have hT : oneT P nCommit w = none := by
            rw [one_commit]
            match w, h2' with
            | [], _ => rfl
            | [_], h => exact absurd rfl h
            | _ :: _ :: _, _ => rfl
          refine CW.seq (CW.region (ef := [1]) (bk := [1]) (RL.loadW Tryz.isAgg43 Tryz.sizeOf43 rfl rfl rfl rfl (by repeat (first | exact List.Mem.head _ | apply List.Mem.tail)) (hpr _ _) ?_))
          refine RL.storeW Tryz.sizeOf43 rfl rfl rfl rfl rfl rfl rfl (pl_ones _ rfl rfl) (by repeat (first | exact Upd.here | apply Upd.there)) (hpr _ _) rfl ?_
          refine RL.p rfl (RL.nil (NQ.seq (CW.ret (RQ.seq (RQ.block (RQ.seq ?_))))))
          exact RQ.post (resWT rfl rfl rfl Tryz.isAgg43 Tryz.sizeOf43 (by repeat (first | exact List.Mem.head _ | apply List.Mem.tail)) (hpr _ _)) (Split.none _) (.inr (.inr ⟨hsz, P, ⟨hcm, rfl, rfl⟩, by rw [hT]; rfl, fun q hq => (by rw [hT] at hq; cases hq), rfl, rfl⟩))
        · have h2' : w.length = 1 := by simp at h2; omega
          obtain ⟨k, rfl⟩ := len1 h2'
          have fK : RdI J (q.add (1 * 1)) (strV k) := ⟨fun H => Rd.getS (H := H) (v := strV k) (j := 1 * 1) mW rfl⟩
          have hk2 := keyX_len k
          have hkb : (bytes ((keyT k).getD (List.replicate 32 0#8))).length = 32 := by rw [List.length_map, hk2]
          have hqr := fun sl zl => pl_len (P := { P with cf := { P.cf with cm := (keyT k).getD (List.replicate 32 0#8) } }) hk2 sl zl
          refine CW.skip (NQ.seq (CW.seq (CW.region (ef := [7, 8]) (bk := [8]) (RL.p rfl (RL.idx (j := 1) Tryz.runUnderlying62 Tryz.sizeOf9 rfl rfl rfl rfl rfl rfl (by omega) ?_)))))
          refine RL.loadq Tryz.isAgg9 rfl rfl rfl rfl ?_
          refine RL.callv (rkey_any k) Tryz.call84 rfl rfl rfl rfl .nil (RL.p rfl (RL.p rfl (RL.p rfl (RL.alloc (cs := List.replicate 32 (U8 0#8)) Tryz.zeroValue29 rfl rfl rfl rfl rfl ?_))))
          intro b3
          refine RL.storeWq Tryz.sizeOf29 rfl rfl rfl rfl rfl rfl rfl ?_
          refine RL.p rfl (RL.nil (NQ.seq (CW.ok [1, 2, 4, 10, 11] rfl (CW.seq (CW.region (ef := [3]) (bk := [3]) (RL.loadSq Tryz.isAgg29 Tryz.sizeOf29 rfl rfl rfl rfl ?_))))))
          refine RL.fieldAddr fa_43_0 rfl rfl rfl rfl (RL.fieldAddr fa_40_4 rfl rfl rfl rfl (RL.storeX (set_cm hcm hk2 _ _) (by rw [hkb]; exact Tryz.sizeOf29) rfl rfl rfl rfl rfl rfl rfl (ones_map one8 _) (by repeat (first | exact Upd.here | apply Upd.there)) (by rw [hpl, hkb]; exact Nat.le_of_ble_eq_true rfl) ?_))
          refine RL.nil (NQ.seq (CW.seq (CW.region (ef := [2]) (bk := [2]) (RL.loadW Tryz.isAgg43 Tryz.sizeOf43 rfl rfl rfl rfl (by repeat (first | exact List.Mem.head _ | apply List.Mem.tail)) (hqr _ _) ?_))))
          refine RL.p rfl (RL.storeW Tryz.sizeOf43 rfl rfl rfl rfl rfl rfl rfl (pl_ones _ rfl rfl) (by repeat (first | exact Upd.here | apply Upd.there)) (hqr _ _) rfl ?_)
          refine RL.p rfl (RL.nil (NQ.seq (CW.ok [1, 2, 4, 5] rfl (CW.ret (RQ.block (RQ.seq ?_))))))
          refine RQ.post (resWT rfl rfl rfl Tryz.isAgg43 Tryz.sizeOf43 (by repeat (first | exact List.Mem.head _ | apply List.Mem.tail)) (hqr _ _)) (Split.none _) (.inr (.inr ⟨hsz, ?_⟩))
          cases hK : keyT k with
          | none =>
            have hT := one_commitN (P := P) hK
            refine ⟨{ P with cf := { P.cf with cm := List.replicate 32 0#8 } }, ⟨rfl, rfl, rfl⟩, by rw [hT]; rfl, fun q hq => ?_, rfl, rfl⟩
            rw [hT] at hq
            first | exact Option.some.inj hq | cases hq
          | some b =>
            have hT := one_commitS (P := P) hK
            refine ⟨{ P with cf := { P.cf with cm := b } }, ⟨(keyL hK), rfl, rfl⟩, by rw [hT]; rfl, fun q hq => ?_, rfl, rfl⟩
            rw [hT] at hq
            first | exact Option.some.inj hq | cases hq
      ·
        have hC' : ¬ nm = nCommit := by simpa using hC
        refine CW.seq (CW.rg (RL.cmp rfl rfl rfl rfl rfl (fun w => eql_txt nm nStride w) ?_))
        refine RL.p rfl (RL.nil (NQ.seq ?_))
        refine CW.cond rfl (fun hD => ?_) (fun hD => ?_)
        ·
          have hD' : nm = nStride := by simpa using hD
          subst hD'
          refine CW.seq (CW.seq (CW.rg (RL.p rfl (RL.lenS Tryz.runUnderlying62 rfl rfl rfl rfl (RL.p rfl (RL.nil (NQ.seq (CW.ok [1, 2, 4, 5, 82] rfl ?_))))))))
          refine CW.cond rfl (fun h2 => ?_) (fun h2 => ?_)
          · have h2' : w.length ≠ 1 := by simp at h2; omega
            have hT : oneT P nStride w = none := by
              rw [one_stride]
              match w, h2' with
              | [], _ => rfl
              | [_], h => exact absurd rfl h
              | _ :: _ :: _, _ => rfl
            refine CW.seq (CW.region (ef := [1]) (bk := [1]) (RL.loadW Tryz.isAgg43 Tryz.sizeOf43 rfl rfl rfl rfl (by repeat (first | exact List.Mem.head _ | apply List.Mem.tail)) (hpr _ _) ?_))
            refine RL.storeW Tryz.sizeOf43 rfl rfl rfl rfl rfl rfl rfl (pl_ones _ rfl rfl) (by repeat (first | exact Upd.here | apply Upd.there)) (hpr _ _) rfl ?_
            refine RL.p rfl (RL.nil (NQ.seq (CW.ret (RQ.seq (RQ.block (RQ.seq ?_))))))
            exact RQ.post (resWT rfl rfl rfl Tryz.isAgg43 Tryz.sizeOf43 (by repeat (first | exact List.Mem.head _ | apply List.Mem.tail)) (hpr _ _)) (Split.none _) (.inr (.inr ⟨hsz, P, ⟨hcm, rfl, rfl⟩, by rw [hT]; rfl, fun q hq => (by rw [hT] at hq; cases hq), rfl, rfl⟩))
          · have h2' : w.length = 1 := by simp at h2; omega
            obtain ⟨k, rfl⟩ := len1 h2'
            have fK : RdI J (q.add (1 * 1)) (strV k) := ⟨fun H => Rd.getS (H := H) (v := strV k) (j := 1 * 1) mW rfl⟩
            have hqr := fun sl zl => pl_len (P := { P with cf := { P.cf with sd := ((bareT k).getD 0 : Nat) } }) hcm sl zl
            refine CW.skip (NQ.seq (CW.seq (CW.rg (RL.p rfl (RL.idx (j := 1) Tryz.runUnderlying62 Tryz.sizeOf9 rfl rfl rfl rfl rfl rfl (by omega) ?_)))))
            refine RL.loadq Tryz.isAgg9 rfl rfl rfl rfl ?_
            refine RL.callv (rbare_any k) Tryz.call85 rfl rfl rfl rfl .nil (RL.p rfl (RL.p rfl (RL.p rfl (RL.p rfl (RL.p rfl (RL.nil (NQ.seq (CW.ok [1, 2, 4, 12, 13] rfl (CW.seq (CW.region (ef := [3]) (bk := [3]) (RL.p rfl (RL.fieldAddr fa_43_0 rfl rfl rfl rfl (RL.fieldAddr fa_40_8 rfl rfl rfl rfl ?_)))))))))))))
            refine RL.storeX (vs := [_]) (sp_sd hcm _ _ _) Tryz.sizeOf30 rfl rfl rfl rfl rfl rfl rfl rfl (by repeat (first | exact Upd.here | apply Upd.there)) (by rw [hpl]; exact Nat.le_of_ble_eq_true rfl) ?_
            refine RL.nil (NQ.seq (CW.seq (CW.region (ef := [2]) (bk := [2]) (RL.loadW Tryz.isAgg43 Tryz.sizeOf43 rfl rfl rfl rfl (by repeat (first | exact List.Mem.head _ | apply List.Mem.tail)) (hqr _ _) ?_))))
            refine RL.p rfl (RL.storeW Tryz.sizeOf43 rfl rfl rfl rfl rfl rfl rfl (pl_ones _ rfl rfl) (by repeat (first | exact Upd.here | apply Upd.there)) (hqr _ _) rfl ?_)
            refine RL.p rfl (RL.nil (NQ.seq (CW.ok [1, 2, 4, 5] rfl (CW.ret (RQ.block (RQ.seq ?_))))))
            refine RQ.post (resWT rfl rfl rfl Tryz.isAgg43 Tryz.sizeOf43 (by repeat (first | exact List.Mem.head _ | apply List.Mem.tail)) (hqr _ _)) (Split.none _) (.inr (.inr ⟨hsz, ?_⟩))
            cases hK : bareT k with
            | none =>
              have hT := one_strideN (P := P) hK
              refine ⟨{ P with cf := { P.cf with sd := (0 : Nat) } }, ⟨hcm, rfl, rfl⟩, by rw [hT]; rfl, fun q hq => ?_, rfl, rfl⟩
              rw [hT] at hq
              first | exact Option.some.inj hq | cases hq
            | some b =>
              have hT := one_strideS (P := P) hK
              refine ⟨{ P with cf := { P.cf with sd := b } }, ⟨hcm, rfl, rfl⟩, by rw [hT]; rfl, fun q hq => ?_, rfl, rfl⟩
              rw [hT] at hq
              first | exact Option.some.inj hq | cases hq
        ·
          have hD' : ¬ nm = nStride := by simpa using hD
          refine CW.skip (NQ.block (NQ.seq (CW.ok [1, 2, 4] rfl (CW.seq (CW.region (ef := [0]) (bk := []) (RL.buildSlice [_, _, _, _, _, _, _, _, _] Tryz.runUnderlying61 Tryz.sizeOf3 Tryz.zeroValue3 rfl rfl (by decide) (by decide) rfl rfl rfl rfl rfl rfl ?_))))))
          intro b3
          refine RL.p rfl (RL.nil (NQ.seq (CW.seq (CW.region (ef := [0]) (bk := [0]) (RL.callq (rnames_any) Tryz.call51 rfl rfl rfl rfl rfl (.inr rfl) ?_)))))
          rintro _ _ _ ⟨bn, rfl, rfl, rfl⟩
          refine RL.p rfl (RL.nil (NQ.seq (CW.seq (CW.seq (CW.freezeP (A := [own (some bn) 9 9 1 9 (nmL.map strV), cel b3 (manyL.map fun n : Nat => .int .i64 (n : Int)) 3]) (B := [cel b2 (plC zeroPl (.slice none 0 0) (.slice none 0 0)) 43, cel b1 (plC P (slO oa P.cf.L.length ca) (slO oz P.zs.length cz)) 43]) (by repeat (first | exact Pick.nil | apply Pick.take | apply Pick.leave)) rfl ?_)))))
          refine CW.genI (fun J2 hJ => ?_)
          have mN : own (some bn) 9 9 1 9 (nmL.map strV) ∈ J2 := hJ _ (List.mem_cons_self ..)
          have mM : cel b3 (manyL.map fun n : Nat => .int .i64 (n : Int)) 3 ∈ J2 := hJ _ (List.mem_cons_of_mem _ (List.mem_cons_self ..))
          have mW2 : sls (some q) 1 mw ((nm :: w).map strV) ∈ J2 := hJ _ (List.mem_append_right _ mW)
          have f0 : RdI J2 (q.add (0 * 1)) (strV nm) := ⟨fun H => Rd.getS (H := H) (v := strV nm) (j := 0 * 1) mW2 rfl⟩
          have lB : ∀ H, Lend J2 H [sls (if cw = 1 then some q else (some q).map (·.add (1 * 1))) 1 (mw - 1) (w.map strV)] := fun H => by
            have h := Lend.subP (F := H) (lo := 1) (k := mw - 1) mW2 (by omega) hc .nil
            have e : (((nm :: w).map strV).drop (1 * 1)).take ((mw - 1) * 1) = w.map strV := by
              show (w.map strV).take ((mw - 1) * 1) = _
              rw [List.take_of_length_le (by rw [List.length_map]; omega)]
            rw [e] at h
            exact h
          clear hJ mW mA mZ
          refine CW.rg (RL.p rfl (RL.nil (NQ.seq (CW.block (CW.loop (γ := Nat) (fun i => i ≤ 9 ∧ ∀ j, j < i → nmL[j]? ≠ some nm) (fun i => [(1, .slice (some q) mw cw), (2, .pointer (some ⟨b1, 0, none⟩)), (4, .pointer (some ⟨b2, 0, none⟩)), (14, .slice (some ⟨b3, 0, none⟩) 9 9), (15, .slice (some ⟨bn, 0, none⟩) 9 9), (16, .int .i64 (i : Int))]) (fun _ => J2) (fun _ => [cel b2 (plC zeroPl (.slice none 0 0) (.slice none 0 0)) 43, cel b1 (plC P (slO oa P.cf.L.length ca) (slO oz P.zs.length cz)) 43]) (fun i => 9 - i) 0 ⟨Nat.zero_le _, fun j h => absurd h (Nat.not_lt_zero _)⟩ (.cons rfl (.cons rfl (.cons rfl (.cons rfl (.cons rfl (.cons rfl .nil)))))) (fun w h => h.rea (fun _ h => h) (by repeat (first | exact Rea.nil | (apply Rea.cons; (solve | (repeat (first | exact Del.here | apply Del.there))))))) ?_)))))
          rintro i ⟨hi, hno⟩
          refine CW.seq (CW.seq (CW.rg (RL.p rfl (RL.p rfl (RL.lenS Tryz.runUnderlying62 rfl rfl rfl rfl (RL.p rfl (RL.nil (NQ.seq ?_))))))))
          refine CW.cond rfl (fun hlt => ?_) (fun hlt => ?_)
          · have hlt' : i < 9 := by simp at hlt; omega
            obtain ⟨x, hx⟩ : ∃ x, nmL[i]? = some x := ⟨_, List.getElem?_eq_getElem (show i < nmL.length from hlt')⟩
            have fN : RdI J2 ⟨bn, 0 + i * 1, none⟩ (strV x) := ownRdI mN (by rw [List.getElem?_map, hx]; rfl)
            have hmy : manyL[i]? = some (manyL.getD i 0) := by rw [List.getD_eq_getElem?_getD, List.getElem?_eq_getElem (show i < manyL.length from hlt')]; rfl
            have fM : RdI J2 ⟨b3, 0 + i * 1, none⟩ (.int .i64 ((manyL.getD i 0 : Nat) : Int)) := ⟨fun _ => Rd.celI mM (by rw [nth_eq, show 0 + i * 1 = i by omega, List.getElem?_map, hmy]; rfl)⟩
            refine CW.skip (NQ.seq (CW.seq (CW.block (CW.seq (CW.seq (CW.regionD (Sq.of [0, 1, 2, 3, 4, 5, 6, 7]) [] [] [0, 1, 2, 3, 4, 5, 6, 7] mixed (by kernel_rfl) ?_))))))
            refine RL.p rfl (RL.p rfl (RL.idxAt (j := i) Tryz.runUnderlying62 Tryz.sizeOf9 rfl rfl rfl rfl rfl rfl hlt' (RL.loadTq Tryz.isAgg9 rfl rfl rfl rfl ?_)))
            refine RL.p rfl (RL.idx (j := 0) Tryz.runUnderlying62 Tryz.sizeOf9 rfl rfl rfl rfl rfl rfl (by omega) ?_)
            refine RL.loadTq Tryz.isAgg9 rfl rfl rfl rfl ?_
            refine RL.cmp rfl rfl rfl rfl rfl (fun w => neq_txt x nm w) ?_
            refine RL.nil (NQ.seq (CW.ok [1, 2, 4, 14, 15, 16, 111] rfl ?_))
            refine CW.cond rfl (fun hne => ?_) (fun hne => ?_)
            · have hne' : x ≠ nm := by simpa using hne
              refine CW.exit (XQ.seq (XQ.hit (NQ.seq (CW.rg (RL.p rfl (RL.bx rfl (wrapV_i64 (by omega) (by omega)) ?_))))))
              refine RL.p rfl (RL.nil ?_)
              exact NQ.round (g := i) (i + 1) ⟨hlt', fun j hj e => by
                rcases Nat.lt_succ_iff_lt_or_eq.1 hj with h | rfl
                · exact hno j h e
                · rw [hx] at e; exact hne' (Option.some.inj e)⟩ (by show 9 - (i + 1) < 9 - i; omega) (.cons rfl (.cons rfl (.cons rfl (.cons rfl (.cons rfl (.cons rfl .nil)))))) (fun w h => h.rea (fun _ h => h) (by repeat (first | exact Rea.nil | (apply Rea.cons; (solve | (repeat (first | exact Del.here | apply Del.there)))))))
            ·
              obtain rfl : x = nm := by simpa using hne
              refine CW.skip (NQ.seq (CW.seq (CW.regionD (Sq.of [0, 1, 2, 3, 4, 5, 6, 7, 8, 9, 10, 11]) [6] [] [0, 1, 2, 3, 4, 5, 7, 8, 9, 10, 11] mixed (by kernel_rfl) ?_)))
              refine RL.p rfl (RL.slice (lo := 1) (hi := mw) Tryz.runUnderlying62 Tryz.sizeOf9 rfl rfl rfl rfl rfl rfl (by omega) hc ?_)
              refine RL.p rfl (RL.p rfl (RL.idxAt (j := i) Tryz.runUnderlying61 Tryz.sizeOf3 rfl rfl rfl rfl rfl rfl hlt' (RL.loadTq Tryz.isAgg3 rfl rfl rfl rfl ?_)))
              refine RL.call (rnums_any w (if cw = 1 then some q else (some q).map (·.add (1 * 1))) (cw - 1) (mw - 1) (manyL.getD i 0) (by omega) (by omega)) Tryz.call86 rfl rfl rfl rfl rfl (by repeat (first | exact Pick.nil | apply Pick.take | apply Pick.leave)) (lB _) (.inl rfl) ?_
              rintro _ _ _ ⟨o2, c2, rfl, rfl, rfl⟩
              refine RL.p rfl (RL.p rfl (RL.p rfl (RL.p rfl (RL.p rfl (RL.nil (NQ.seq (CW.ok [1, 2, 4, 14, 15, 16, 17, 18] rfl (CW.seq (CW.seq (CW.rg (RL.p rfl (RL.p rfl (RL.nil ?_)))))))))))))
              refine NQ.seq ?_
              refine CW.cond rfl (fun hb => ?_) (fun hb => ?_)
              · have hT : oneT P x w = none := one_bad hx hlt' hC' hD' (fun h => by rw [h] at hb; cases hb)
                refine CW.seq (CW.region (ef := [1]) (bk := [1]) (RL.loadW Tryz.isAgg43 Tryz.sizeOf43 rfl rfl rfl rfl (by repeat (first | exact List.Mem.head _ | apply List.Mem.tail)) (hpr _ _) ?_))
                refine RL.storeW Tryz.sizeOf43 rfl rfl rfl rfl rfl rfl rfl (pl_ones _ rfl rfl) (by repeat (first | exact Upd.here | apply Upd.there)) (hpr _ _) rfl ?_
                refine RL.p rfl (RL.nil (NQ.seq (CW.ret (RQ.seq (RQ.block (RQ.seq (RQ.seq (RQ.block (RQ.seq ?_)))))))))
                exact RQ.post (resWT rfl rfl rfl Tryz.isAgg43 Tryz.sizeOf43 (by repeat (first | exact List.Mem.head _ | apply List.Mem.tail)) (hpr _ _)) (Split.none _) (.inr (.inr ⟨hsz, P, ⟨hcm, rfl, rfl⟩, by rw [hT]; rfl, fun q hq => (by rw [hT] at hq; cases hq), rfl, rfl⟩))
              · obtain ⟨l, hl, hll, hwm⟩ := one_good (w := w) (m := manyL.getD i 0) (by simpa using hb)
                obtain ⟨k0, k1, k2, k4, k5, k7, k8, hpos⟩ := many_at hx hlt' hC' hD'
                rw [hl]
                dsimp only [Option.getD_some]
                generalize manyL.getD i 0 = m at hll hwm hpos fM hmy k0 k1 k2 k4 k5 k7 k8
                refine CW.freezeP (A := [own o2 c2 2 1 l.length (i64s l)]) (B := [cel b2 (plC zeroPl (.slice none 0 0) (.slice none 0 0)) 43, cel b1 (plC P (slO oa P.cf.L.length ca) (slO oz P.zs.length cz)) 43]) (by repeat (first | exact Pick.nil | apply Pick.take | apply Pick.leave)) rfl ?_
                refine CW.genI (fun J4 hJ => ?_)
                have n4 : own o2 c2 2 1 l.length (i64s l) ∈ J4 := hJ _ (List.mem_cons_self ..)
                have mW4 : sls (some q) 1 mw ((x :: w).map strV) ∈ J4 := hJ _ (List.mem_append_right _ mW2)
                have f0 : RdI J4 (q.add (0 * 1)) (strV x) := ⟨fun H => Rd.getS (H := H) (v := strV x) (j := 0 * 1) mW4 rfl⟩
                clear hJ lB mN mM fN fM hmy mW2
                refine CW.fact (p := o2.isSome = true) (fun w hC => ?_) (fun ho2 => ?_)
                · have h := hC.s.i _ n4
                  cases o2 with
                  | none => have := own_none h; omega
                  | some b => rfl
                obtain ⟨bp, rfl⟩ := Option.isSome_iff_exists.1 ho2
                refine CW.skip (NQ.seq (CW.seq (CW.seq (CW.rg (RL.p rfl (RL.idx (j := 0) Tryz.runUnderlying62 Tryz.sizeOf9 rfl rfl rfl rfl rfl rfl (by omega) ?_))))))
                refine RL.loadq Tryz.isAgg9 rfl rfl rfl rfl ?_
                refine RL.nil (NQ.seq (CW.block (CW.seq (CW.rg (RL.cmp rfl rfl rfl rfl rfl (fun w => eql_txt x nGravity w) ?_)))))
                refine RL.p rfl (RL.nil (NQ.seq (CW.ok [1, 2, 4, 14, 15, 16, 17, 127, 132] rfl ?_)))
                refine CW.cond rfl (fun hGravity => ?_) (fun hGravity => ?_)
                · have hy : x = nGravity := by simpa using hGravity
                  obtain ⟨a, b, c, rfl⟩ := len3 (hll.trans (k0 hy))
                  have hT : oneT P x w = some _ := (congrArg (fun n => oneT P n w) hy).trans ((one_grav P w).trans (by rw [hl]))
                  clear k0 k1 k2 k4 k5 k7 k8
                  have v0 : RdI J4 ⟨bp, 0 + 0 * 1, none⟩ (.int .i64 a) := ownRdI n4 rfl
                  have v1 : RdI J4 ⟨bp, 0 + 1 * 1, none⟩ (.int .i64 b) := ownRdI n4 rfl
                  have v2 : RdI J4 ⟨bp, 0 + 2 * 1, none⟩ (.int .i64 c) := ownRdI n4 rfl
                  have hqr := fun sl zl => hlen { P with cf := { P.cf with g0 := a, g1 := b, g2 := c } } rfl sl zl
                  refine CW.regionD (Sq.of [0, 1, 2, 3, 4, 5, 6, 7, 8, 9, 10, 11, 12]) [12] [12] [0, 1, 2, 3, 4, 5, 6, 7, 8, 9, 10, 11] mixed (by kernel_rfl) ?_
                  refine RL.p rfl (RL.idxAt (j := 0) Tryz.runUnderlying189 Tryz.sizeOf2 rfl rfl rfl rfl rfl rfl (Nat.le_of_ble_eq_true rfl) (RL.loadTq Tryz.isAgg2 rfl rfl rfl rfl ?_))
                  refine RL.p rfl (RL.idxAt (j := 1) Tryz.runUnderlying189 Tryz.sizeOf2 rfl rfl rfl rfl rfl rfl (Nat.le_of_ble_eq_true rfl) (RL.loadTq Tryz.isAgg2 rfl rfl rfl rfl ?_))
                  refine RL.p rfl (RL.idxAt (j := 2) Tryz.runUnderlying189 Tryz.sizeOf2 rfl rfl rfl rfl rfl rfl (Nat.le_of_ble_eq_true rfl) (RL.loadTq Tryz.isAgg2 rfl rfl rfl rfl ?_))
                  refine RL.buildA [_, _, _] Tryz.zeroValue25 Tryz.runUnderlying25 Tryz.sizeOf23 rfl rfl rfl rfl rfl (RL.fieldAddr fa_43_0 rfl rfl rfl rfl (RL.fieldAddr fa_40_1 rfl rfl rfl rfl (RL.storeX (vs := [_, _, _]) (sp_grav P a b c _ _) Tryz.sizeOf25 rfl rfl rfl rfl rfl rfl rfl rfl (by repeat (first | exact Upd.here | apply Upd.there)) (hle (by exact Nat.le_of_ble_eq_true rfl) (by exact rfl)) ?_)))
                  refine RL.nil (NQ.block (NQ.seq (CW.ok [1, 2, 4, 14, 15, 16] rfl (CW.seq (CW.region (ef := [1]) (bk := [1]) (RL.loadW Tryz.isAgg43 Tryz.sizeOf43 rfl rfl rfl rfl (by repeat (first | exact List.Mem.head _ | apply List.Mem.tail)) (hqr _ _) ?_))))))
                  refine RL.storeW Tryz.sizeOf43 rfl rfl rfl rfl rfl rfl rfl (pl_ones _ rfl rfl) (by repeat (first | exact Upd.here | apply Upd.there)) (hqr _ _) rfl ?_
                  refine RL.p rfl (RL.nil (NQ.seq (CW.ret (RQ.block (RQ.seq (RQ.seq (RQ.block (RQ.seq ?_))))))))
                  exact RQ.post (resWT rfl rfl rfl Tryz.isAgg43 Tryz.sizeOf43 (by repeat (first | exact List.Mem.head _ | apply List.Mem.tail)) (hqr _ _)) (Split.none _) (.inr (.inr ⟨hsz, { P with cf := { P.cf with g0 := a, g1 := b, g2 := c } }, ⟨hcm, rfl, rfl⟩, by rw [hT]; rfl, fun q hq => (by rw [hT] at hq; exact Option.some.inj hq), rfl, rfl⟩))
                · have hGravity : ¬ x = nGravity := by simpa using hGravity
                  refine CW.seq (CW.rg (RL.cmp rfl rfl rfl rfl rfl (fun w => eql_txt x nDrift w) ?_))
                  refine RL.p rfl (RL.nil (NQ.seq ?_))
                  refine CW.cond rfl (fun hDrift => ?_) (fun hDrift => ?_)
                  · have hy : x = nDrift := by simpa using hDrift
                    obtain ⟨a, rfl⟩ := len1 (hll.trans (k1 hy))
                    have hT : oneT P x w = some _ := (congrArg (fun n => oneT P n w) hy).trans ((one_drift P w).trans (by rw [hl]))
                    clear k0 k1 k2 k4 k5 k7 k8
                    have v0 : RdI J4 ⟨bp, 0 + 0 * 1, none⟩ (.int .i64 a) := ownRdI n4 rfl
                    have hqr := fun sl zl => hlen { P with cf := { P.cf with dr := a } } rfl sl zl
                    refine CW.region (ef := [5]) (bk := [5]) (RL.p rfl (RL.idxAt (j := 0) Tryz.runUnderlying189 Tryz.sizeOf2 rfl rfl rfl rfl rfl rfl (Nat.le_of_ble_eq_true rfl) (RL.loadq Tryz.isAgg2 rfl rfl rfl rfl ?_)))
                    refine RL.fieldAddr fa_43_0 rfl rfl rfl rfl (RL.fieldAddr fa_40_2 rfl rfl rfl rfl (RL.storeX (vs := [_]) (sp_dr P a _ _) Tryz.sizeOf23 rfl rfl rfl rfl rfl rfl rfl rfl (by repeat (first | exact Upd.here | apply Upd.there)) (hle (by exact Nat.le_of_ble_eq_true rfl) (by exact rfl)) ?_))
                    refine RL.nil (NQ.block (NQ.seq (CW.ok [1, 2, 4, 14, 15, 16] rfl (CW.seq (CW.region (ef := [1]) (bk := [1]) (RL.loadW Tryz.isAgg43 Tryz.sizeOf43 rfl rfl rfl rfl (by repeat (first | exact List.Mem.head _ | apply List.Mem.tail)) (hqr _ _) ?_))))))
                    refine RL.storeW Tryz.sizeOf43 rfl rfl rfl rfl rfl rfl rfl (pl_ones _ rfl rfl) (by repeat (first | exact Upd.here | apply Upd.there)) (hqr _ _) rfl ?_
                    refine RL.p rfl (RL.nil (NQ.seq (CW.ret (RQ.block (RQ.seq (RQ.seq (RQ.block (RQ.seq ?_))))))))
                    exact RQ.post (resWT rfl rfl rfl Tryz.isAgg43 Tryz.sizeOf43 (by repeat (first | exact List.Mem.head _ | apply List.Mem.tail)) (hqr _ _)) (Split.none _) (.inr (.inr ⟨hsz, { P with cf := { P.cf with dr := a } }, ⟨hcm, rfl, rfl⟩, by rw [hT]; rfl, fun q hq => (by rw [hT] at hq; exact Option.some.inj hq), rfl, rfl⟩))
                  · have hDrift : ¬ x = nDrift := by simpa using hDrift
                    refine CW.seq (CW.rg (RL.cmp rfl rfl rfl rfl rfl (fun w => eql_txt x nSlot w) ?_))
                    refine RL.p rfl (RL.nil (NQ.seq ?_))
                    refine CW.cond rfl (fun hSlot => ?_) (fun hSlot => ?_)
                    · have hy : x = nSlot := by simpa using hSlot
                      obtain ⟨a, b, c, d, rfl⟩ := len4 (hll.trans (k2 hy))
                      have hT : oneT P x w = some _ := (congrArg (fun n => oneT P n w) hy).trans ((one_slot P w).trans (by rw [hl]))
                      clear k0 k1 k2 k4 k5 k7 k8
                      have v0 : RdI J4 ⟨bp, 0 + 0 * 1, none⟩ (.int .i64 a) := ownRdI n4 rfl
                      have v1 : RdI J4 ⟨bp, 0 + 1 * 1, none⟩ (.int .i64 b) := ownRdI n4 rfl
                      have v2 : RdI J4 ⟨bp, 0 + 2 * 1, none⟩ (.int .i64 c) := ownRdI n4 rfl
                      have v3 : RdI J4 ⟨bp, 0 + 3 * 1, none⟩ (.int .i64 d) := ownRdI n4 rfl
                      have hqr := fun sl zl => hlen { P with cf := { P.cf with sc := ⟨a, b, c, d⟩ } } rfl sl zl
                      refine CW.regionD (Sq.of [0, 1, 2, 3, 4, 5, 6, 7, 8, 9, 10, 11, 12, 13, 14, 15, 16, 17, 18, 19, 20, 21, 22, 23, 24, 25, 26, 27]) [15, 19, 23, 27] [15, 19, 23, 27] [0, 1, 2, 3, 4, 5, 6, 7, 8, 9, 10, 11, 12, 13, 14, 16, 17, 18, 20, 21, 22, 24, 25, 26] mixed (by kernel_rfl) ?_
                      refine RL.p rfl (RL.idxAt (j := 0) Tryz.runUnderlying189 Tryz.sizeOf2 rfl rfl rfl rfl rfl rfl (Nat.le_of_ble_eq_true rfl) (RL.loadTq Tryz.isAgg2 rfl rfl rfl rfl ?_))
                      refine RL.p rfl (RL.idxAt (j := 1) Tryz.runUnderlying189 Tryz.sizeOf2 rfl rfl rfl rfl rfl rfl (Nat.le_of_ble_eq_true rfl) (RL.loadTq Tryz.isAgg2 rfl rfl rfl rfl ?_))
                      refine RL.p rfl (RL.idxAt (j := 2) Tryz.runUnderlying189 Tryz.sizeOf2 rfl rfl rfl rfl rfl rfl (Nat.le_of_ble_eq_true rfl) (RL.loadTq Tryz.isAgg2 rfl rfl rfl rfl ?_))
                      refine RL.p rfl (RL.idxAt (j := 3) Tryz.runUnderlying189 Tryz.sizeOf2 rfl rfl rfl rfl rfl rfl (Nat.le_of_ble_eq_true rfl) (RL.loadTq Tryz.isAgg2 rfl rfl rfl rfl ?_))
                      refine RL.fieldAddr fa_43_0 rfl rfl rfl rfl (RL.fieldAddr fa_40_3 rfl rfl rfl rfl (RL.fieldAddr fa_38_0 rfl rfl rfl rfl (RL.storeX (vs := [_]) (sp_s0 P a _ _) Tryz.sizeOf3 rfl rfl rfl rfl rfl rfl rfl rfl (by repeat (first | exact Upd.here | apply Upd.there)) (hle (by exact Nat.le_of_ble_eq_true rfl) (by exact rfl)) ?_)))
                      refine RL.fieldAddr fa_43_0 rfl rfl rfl rfl (RL.fieldAddr fa_40_3 rfl rfl rfl rfl (RL.fieldAddr fa_38_1 rfl rfl rfl rfl (RL.storeX (vs := [_]) (sp_s1 { P with cf := { P.cf with sc := { P.cf.sc with st := a } } } b _ _) Tryz.sizeOf3 rfl rfl rfl rfl rfl rfl rfl rfl (by repeat (first | exact Upd.here | apply Upd.there)) (hle (by exact Nat.le_of_ble_eq_true rfl) (by exact rfl)) ?_)))
                      refine RL.fieldAddr fa_43_0 rfl rfl rfl rfl (RL.fieldAddr fa_40_3 rfl rfl rfl rfl (RL.fieldAddr fa_38_2 rfl rfl rfl rfl (RL.storeX (vs := [_]) (sp_s2 { P with cf := { P.cf with sc := { P.cf.sc with st := a, ln := b } } } c _ _) Tryz.sizeOf3 rfl rfl rfl rfl rfl rfl rfl rfl (by repeat (first | exact Upd.here | apply Upd.there)) (hle (by exact Nat.le_of_ble_eq_true rfl) (by exact rfl)) ?_)))
                      refine RL.fieldAddr fa_43_0 rfl rfl rfl rfl (RL.fieldAddr fa_40_3 rfl rfl rfl rfl (RL.fieldAddr fa_38_3 rfl rfl rfl rfl (RL.storeX (vs := [_]) (sp_s3 { P with cf := { P.cf with sc := { P.cf.sc with st := a, ln := b, lg := c } } } d _ _) Tryz.sizeOf3 rfl rfl rfl rfl rfl rfl rfl rfl (by repeat (first | exact Upd.here | apply Upd.there)) (hle (by exact Nat.le_of_ble_eq_true rfl) (by exact rfl)) ?_)))
                      refine RL.nil (NQ.block (NQ.seq (CW.ok [1, 2, 4, 14, 15, 16] rfl (CW.seq (CW.region (ef := [1]) (bk := [1]) (RL.loadW Tryz.isAgg43 Tryz.sizeOf43 rfl rfl rfl rfl (by repeat (first | exact List.Mem.head _ | apply List.Mem.tail)) (hqr _ _) ?_))))))
                      refine RL.storeW Tryz.sizeOf43 rfl rfl rfl rfl rfl rfl rfl (pl_ones _ rfl rfl) (by repeat (first | exact Upd.here | apply Upd.there)) (hqr _ _) rfl ?_
                      refine RL.p rfl (RL.nil (NQ.seq (CW.ret (RQ.block (RQ.seq (RQ.seq (RQ.block (RQ.seq ?_))))))))
                      exact RQ.post (resWT rfl rfl rfl Tryz.isAgg43 Tryz.sizeOf43 (by repeat (first | exact List.Mem.head _ | apply List.Mem.tail)) (hqr _ _)) (Split.none _) (.inr (.inr ⟨hsz, { P with cf := { P.cf with sc := ⟨a, b, c, d⟩ } }, ⟨hcm, rfl, rfl⟩, by rw [hT]; rfl, fun q hq => (by rw [hT] at hq; exact Option.some.inj hq), rfl, rfl⟩))
                    · have hSlot : ¬ x = nSlot := by simpa using hSlot
                      refine CW.seq (CW.rg (RL.cmp rfl rfl rfl rfl rfl (fun w => eql_txt x nLock w) ?_))
                      refine RL.p rfl (RL.nil (NQ.seq (CW.ok [1, 2, 4, 14, 15, 16, 17, 127, 179] rfl ?_)))
                      refine CW.cond rfl (fun hLock => ?_) (fun hLock => ?_)
                      · have hy : x = nLock := by simpa using hLock
                        obtain ⟨a, b, rfl⟩ := len2 (hll.trans (k4 hy))
                        have hT : oneT P x w = some _ := (congrArg (fun n => oneT P n w) hy).trans ((one_lock P w).trans (by rw [hl]))
                        clear k0 k1 k2 k4 k5 k7 k8
                        have v0 : RdI J4 ⟨bp, 0 + 0 * 1, none⟩ (.int .i64 a) := ownRdI n4 rfl
                        have v1 : RdI J4 ⟨bp, 0 + 1 * 1, none⟩ (.int .i64 b) := ownRdI n4 rfl
                        have hqr := fun sl zl => hlen { P with cf := { P.cf with mo := a, ti := b } } rfl sl zl
                        refine CW.regionD (Sq.of [0, 1, 2, 3, 4, 5, 6, 7, 8, 9, 10, 11]) [8, 11] [8, 11] [0, 1, 2, 3, 4, 5, 6, 7, 9, 10] mixed (by kernel_rfl) ?_
                        refine RL.p rfl (RL.idxAt (j := 0) Tryz.runUnderlying189 Tryz.sizeOf2 rfl rfl rfl rfl rfl rfl (Nat.le_of_ble_eq_true rfl) (RL.loadTq Tryz.isAgg2 rfl rfl rfl rfl ?_))
                        refine RL.p rfl (RL.idxAt (j := 1) Tryz.runUnderlying189 Tryz.sizeOf2 rfl rfl rfl rfl rfl rfl (Nat.le_of_ble_eq_true rfl) (RL.loadTq Tryz.isAgg2 rfl rfl rfl rfl ?_))
                        refine RL.fieldAddr fa_43_0 rfl rfl rfl rfl (RL.fieldAddr fa_40_5 rfl rfl rfl rfl (RL.storeX (vs := [_]) (sp_mo (P := P) hcm  a _ _) Tryz.sizeOf3 rfl rfl rfl rfl rfl rfl rfl rfl (by repeat (first | exact Upd.here | apply Upd.there)) (hle (by exact Nat.le_of_ble_eq_true rfl) (by exact rfl)) ?_))
                        refine RL.fieldAddr fa_43_0 rfl rfl rfl rfl (RL.fieldAddr fa_40_6 rfl rfl rfl rfl (RL.storeX (vs := [_]) (sp_ti (P := { P with cf := { P.cf with mo := a } }) hcm  b _ _) Tryz.sizeOf3 rfl rfl rfl rfl rfl rfl rfl rfl (by repeat (first | exact Upd.here | apply Upd.there)) (hle (by exact Nat.le_of_ble_eq_true rfl) (by exact rfl)) ?_))
                        refine RL.nil (NQ.block (NQ.seq (CW.ok [1, 2, 4, 14, 15, 16] rfl (CW.seq (CW.region (ef := [1]) (bk := [1]) (RL.loadW Tryz.isAgg43 Tryz.sizeOf43 rfl rfl rfl rfl (by repeat (first | exact List.Mem.head _ | apply List.Mem.tail)) (hqr _ _) ?_))))))
                        refine RL.storeW Tryz.sizeOf43 rfl rfl rfl rfl rfl rfl rfl (pl_ones _ rfl rfl) (by repeat (first | exact Upd.here | apply Upd.there)) (hqr _ _) rfl ?_
                        refine RL.p rfl (RL.nil (NQ.seq (CW.ret (RQ.block (RQ.seq (RQ.seq (RQ.block (RQ.seq ?_))))))))
                        exact RQ.post (resWT rfl rfl rfl Tryz.isAgg43 Tryz.sizeOf43 (by repeat (first | exact List.Mem.head _ | apply List.Mem.tail)) (hqr _ _)) (Split.none _) (.inr (.inr ⟨hsz, { P with cf := { P.cf with mo := a, ti := b } }, ⟨hcm, rfl, rfl⟩, by rw [hT]; rfl, fun q hq => (by rw [hT] at hq; exact Option.some.inj hq), rfl, rfl⟩))
                      · have hLock : ¬ x = nLock := by simpa using hLock
                        refine CW.seq (CW.rg (RL.cmp rfl rfl rfl rfl rfl (fun w => eql_txt x nGrace w) ?_))
                        refine RL.p rfl (RL.nil (NQ.seq ?_))
                        refine CW.cond rfl (fun hGrace => ?_) (fun hGrace => ?_)
                        · have hy : x = nGrace := by simpa using hGrace
                          obtain ⟨a, rfl⟩ := len1 (hll.trans (k5 hy))
                          have hT : oneT P x w = some _ := (congrArg (fun n => oneT P n w) hy).trans ((one_grace P w).trans (by rw [hl]))
                          clear k0 k1 k2 k4 k5 k7 k8
                          have v0 : RdI J4 ⟨bp, 0 + 0 * 1, none⟩ (.int .i64 a) := ownRdI n4 rfl
                          have hqr := fun sl zl => hlen { P with cf := { P.cf with gr := a } } rfl sl zl
                          refine CW.region (ef := [5]) (bk := [5]) (RL.p rfl (RL.idxAt (j := 0) Tryz.runUnderlying189 Tryz.sizeOf2 rfl rfl rfl rfl rfl rfl (Nat.le_of_ble_eq_true rfl) (RL.loadq Tryz.isAgg2 rfl rfl rfl rfl ?_)))
                          refine RL.fieldAddr fa_43_0 rfl rfl rfl rfl (RL.fieldAddr fa_40_7 rfl rfl rfl rfl (RL.storeX (vs := [_]) (sp_gr (P := P) hcm  a _ _) Tryz.sizeOf3 rfl rfl rfl rfl rfl rfl rfl rfl (by repeat (first | exact Upd.here | apply Upd.there)) (hle (by exact Nat.le_of_ble_eq_true rfl) (by exact rfl)) ?_))
                          refine RL.nil (NQ.block (NQ.seq (CW.ok [1, 2, 4, 14, 15, 16] rfl (CW.seq (CW.region (ef := [1]) (bk := [1]) (RL.loadW Tryz.isAgg43 Tryz.sizeOf43 rfl rfl rfl rfl (by repeat (first | exact List.Mem.head _ | apply List.Mem.tail)) (hqr _ _) ?_))))))
                          refine RL.storeW Tryz.sizeOf43 rfl rfl rfl rfl rfl rfl rfl (pl_ones _ rfl rfl) (by repeat (first | exact Upd.here | apply Upd.there)) (hqr _ _) rfl ?_
                          refine RL.p rfl (RL.nil (NQ.seq (CW.ret (RQ.block (RQ.seq (RQ.seq (RQ.block (RQ.seq ?_))))))))
                          exact RQ.post (resWT rfl rfl rfl Tryz.isAgg43 Tryz.sizeOf43 (by repeat (first | exact List.Mem.head _ | apply List.Mem.tail)) (hqr _ _)) (Split.none _) (.inr (.inr ⟨hsz, { P with cf := { P.cf with gr := a } }, ⟨hcm, rfl, rfl⟩, by rw [hT]; rfl, fun q hq => (by rw [hT] at hq; exact Option.some.inj hq), rfl, rfl⟩))
                        · have hGrace : ¬ x = nGrace := by simpa using hGrace
                          refine CW.seq (CW.rg (RL.cmp rfl rfl rfl rfl rfl (fun w => eql_txt x nClock w) ?_))
                          refine RL.p rfl (RL.nil (NQ.seq ?_))
                          refine CW.cond rfl (fun hClock => ?_) (fun hClock => ?_)
                          · have hy : x = nClock := by simpa using hClock
                            obtain ⟨a, b, c, rfl⟩ := len3 (hll.trans (k7 hy))
                            have hT : oneT P x w = some _ := (congrArg (fun n => oneT P n w) hy).trans ((one_clock P w).trans (by rw [hl]))
                            clear k0 k1 k2 k4 k5 k7 k8
                            have v0 : RdI J4 ⟨bp, 0 + 0 * 1, none⟩ (.int .i64 a) := ownRdI n4 rfl
                            have v1 : RdI J4 ⟨bp, 0 + 1 * 1, none⟩ (.int .i64 b) := ownRdI n4 rfl
                            have v2 : RdI J4 ⟨bp, 0 + 2 * 1, none⟩ (.int .i64 c) := ownRdI n4 rfl
                            have hqr := fun sl zl => hlen { P with de := a, ra := b, mo := c } rfl sl zl
                            refine CW.regionD (Sq.of [0, 1, 2, 3, 4, 5, 6, 7, 8, 9, 10, 11, 12, 13, 14]) [10, 12, 14] [10, 12, 14] [0, 1, 2, 3, 4, 5, 6, 7, 8, 9, 11, 13] mixed (by kernel_rfl) ?_
                            refine RL.p rfl (RL.idxAt (j := 0) Tryz.runUnderlying189 Tryz.sizeOf2 rfl rfl rfl rfl rfl rfl (Nat.le_of_ble_eq_true rfl) (RL.loadTq Tryz.isAgg2 rfl rfl rfl rfl ?_))
                            refine RL.p rfl (RL.idxAt (j := 1) Tryz.runUnderlying189 Tryz.sizeOf2 rfl rfl rfl rfl rfl rfl (Nat.le_of_ble_eq_true rfl) (RL.loadTq Tryz.isAgg2 rfl rfl rfl rfl ?_))
                            refine RL.p rfl (RL.idxAt (j := 2) Tryz.runUnderlying189 Tryz.sizeOf2 rfl rfl rfl rfl rfl rfl (Nat.le_of_ble_eq_true rfl) (RL.loadTq Tryz.isAgg2 rfl rfl rfl rfl ?_))
                            refine RL.fieldAddr fa_43_2 rfl rfl rfl rfl (RL.storeX (vs := [_]) (sp_de (P := P) hcm  a _ _) Tryz.sizeOf3 rfl rfl rfl rfl rfl rfl rfl rfl (by repeat (first | exact Upd.here | apply Upd.there)) (hle (by exact Nat.le_of_ble_eq_true rfl) (by exact rfl)) ?_)
                            refine RL.fieldAddr fa_43_3 rfl rfl rfl rfl (RL.storeX (vs := [_]) (sp_ra (P := { P with de := a }) hcm  b _ _) Tryz.sizeOf3 rfl rfl rfl rfl rfl rfl rfl rfl (by repeat (first | exact Upd.here | apply Upd.there)) (hle (by exact Nat.le_of_ble_eq_true rfl) (by exact rfl)) ?_)
                            refine RL.fieldAddr fa_43_4 rfl rfl rfl rfl (RL.storeX (vs := [_]) (sp_m (P := { P with de := a, ra := b }) hcm  c _ _) Tryz.sizeOf3 rfl rfl rfl rfl rfl rfl rfl rfl (by repeat (first | exact Upd.here | apply Upd.there)) (hle (by exact Nat.le_of_ble_eq_true rfl) (by exact rfl)) ?_)
                            refine RL.nil (NQ.block (NQ.seq (CW.ok [1, 2, 4, 14, 15, 16] rfl (CW.seq (CW.region (ef := [1]) (bk := [1]) (RL.loadW Tryz.isAgg43 Tryz.sizeOf43 rfl rfl rfl rfl (by repeat (first | exact List.Mem.head _ | apply List.Mem.tail)) (hqr _ _) ?_))))))
                            refine RL.storeW Tryz.sizeOf43 rfl rfl rfl rfl rfl rfl rfl (pl_ones _ rfl rfl) (by repeat (first | exact Upd.here | apply Upd.there)) (hqr _ _) rfl ?_
                            refine RL.p rfl (RL.nil (NQ.seq (CW.ret (RQ.block (RQ.seq (RQ.seq (RQ.block (RQ.seq ?_))))))))
                            exact RQ.post (resWT rfl rfl rfl Tryz.isAgg43 Tryz.sizeOf43 (by repeat (first | exact List.Mem.head _ | apply List.Mem.tail)) (hqr _ _)) (Split.none _) (.inr (.inr ⟨hsz, { P with de := a, ra := b, mo := c }, ⟨hcm, rfl, rfl⟩, by rw [hT]; rfl, fun q hq => (by rw [hT] at hq; exact Option.some.inj hq), rfl, rfl⟩))
                          · have hClock : ¬ x = nClock := by simpa using hClock
                            have hy : x = nTrace := by
                              rcases nm_at hx hlt' hC' hD' with ⟨-, h⟩ | ⟨-, h⟩ | ⟨-, h⟩ | ⟨-, h⟩ | ⟨-, h⟩ | ⟨-, h⟩ | ⟨-, h⟩
                              · exact absurd h hGravity
                              · exact absurd h hDrift
                              · exact absurd h hSlot
                              · exact absurd h hLock
                              · exact absurd h hGrace
                              · exact absurd h hClock
                              · exact h
                            obtain ⟨a, rfl⟩ := len1 (hll.trans (k8 hy))
                            have hT : oneT P x w = some _ := (congrArg (fun n => oneT P n w) hy).trans ((one_trace P w).trans (by rw [hl]))
                            clear k0 k1 k2 k4 k5 k7 k8
                            have v0 : RdI J4 ⟨bp, 0 + 0 * 1, none⟩ (.int .i64 a) := ownRdI n4 rfl
                            have hqr := fun sl zl => hlen { P with sz := a } rfl sl zl
                            refine CW.region (ef := [4]) (bk := [4]) (RL.p rfl (RL.idxAt (j := 0) Tryz.runUnderlying189 Tryz.sizeOf2 rfl rfl rfl rfl rfl rfl (Nat.le_of_ble_eq_true rfl) (RL.loadq Tryz.isAgg2 rfl rfl rfl rfl ?_)))
                            refine RL.fieldAddr fa_43_5 rfl rfl rfl rfl (RL.storeX (vs := [_]) (sp_sz (P := P) hcm  a _ _) Tryz.sizeOf3 rfl rfl rfl rfl rfl rfl rfl rfl (by repeat (first | exact Upd.here | apply Upd.there)) (hle (by exact Nat.le_of_ble_eq_true rfl) (by exact rfl)) ?_)
                            refine RL.nil (NQ.block (NQ.seq (CW.ok [1, 2, 4, 14, 15, 16] rfl (CW.seq (CW.region (ef := [1]) (bk := [1]) (RL.loadW Tryz.isAgg43 Tryz.sizeOf43 rfl rfl rfl rfl (by repeat (first | exact List.Mem.head _ | apply List.Mem.tail)) (hqr _ _) ?_))))))
                            refine RL.storeW Tryz.sizeOf43 rfl rfl rfl rfl rfl rfl rfl (pl_ones _ rfl rfl) (by repeat (first | exact Upd.here | apply Upd.there)) (hqr _ _) rfl ?_
                            refine RL.p rfl (RL.nil (NQ.seq (CW.ret (RQ.block (RQ.seq (RQ.seq (RQ.block (RQ.seq ?_))))))))
                            exact RQ.post (resWT rfl rfl rfl Tryz.isAgg43 Tryz.sizeOf43 (by repeat (first | exact List.Mem.head _ | apply List.Mem.tail)) (hqr _ _)) (Split.none _) (.inr (.inr ⟨hsz, { P with sz := a }, ⟨hcm, rfl, rfl⟩, by rw [hT]; rfl, fun q hq => (by rw [hT] at hq; exact Option.some.inj hq), rfl, rfl⟩))
          · have hT : oneT P nm w = none := one_none (fun j hj => hno j (by simp at hlt; omega))
            refine CW.exit (XQ.seq (XQ.seq (XQ.hit (NQ.seq (CW.ok [2, 4] rfl (CW.seq (CW.region (ef := [1]) (bk := [1]) (RL.loadW Tryz.isAgg43 Tryz.sizeOf43 rfl rfl rfl rfl (by repeat (first | exact List.Mem.head _ | apply List.Mem.tail)) (hpr _ _) ?_))))))))
            refine RL.storeW Tryz.sizeOf43 rfl rfl rfl rfl rfl rfl rfl (pl_ones _ rfl rfl) (by repeat (first | exact Upd.here | apply Upd.there)) (hpr _ _) rfl ?_
            refine RL.p rfl (RL.nil (NQ.seq (CW.ret ?_)))
            exact RQ.post (resWT rfl rfl rfl Tryz.isAgg43 Tryz.sizeOf43 (by repeat (first | exact List.Mem.head _ | apply List.Mem.tail)) (hpr _ _)) (Split.none _) (.inr (.inr ⟨hsz, P, ⟨hcm, rfl, rfl⟩, by rw [hT]; rfl, fun q hq => (by rw [hT] at hq; cases hq), rfl, rfl⟩))
end Go.Proofs.YthndhipjfdgdfaaGreatDoor
