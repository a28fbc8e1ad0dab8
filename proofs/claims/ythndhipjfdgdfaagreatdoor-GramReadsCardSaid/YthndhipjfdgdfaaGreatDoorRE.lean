import Derived.Test.YthndhipjfdgdfaaGreatDoorRD
import Derived.Test.YthndhipjfdgdfaaGreatDoorPX
set_option linter.unusedVariables false
set_option linter.unusedSimpArgs false
namespace Go.Proofs.YthndhipjfdgdfaaGreatDoor
open Go.PK
/-! ### The reference's Parse: what it reckons -/
theorem runT_nil : ∀ (A : List Tx) (k : Nat) (st : PS), runT (A ++ [[]]) k st = runT A k st
  | [], k, st => rfl
  | l :: r, k, st => by
    rw [List.cons_append, runT_cons, runT_cons]
    split
    · split
      · rfl
      · exact runT_nil r _ _
    · exact runT_nil r _ _
theorem lin_or (L : List Tx) : linT L = L ∨ L = linT L ++ [[]] := by
  by_cases h : L.getLast? = some []
  · right
    have e : linT L = L.dropLast := by rw [linT, if_pos h]
    rw [e]
    obtain ⟨ys, e2⟩ := List.getLast?_eq_some_iff.1 h
    rw [e2, List.dropLast_concat]
  · left; rw [linT, if_neg h]
theorem lin_run (L : List Tx) (k : Nat) (st : PS) : runT L k st = runT (linT L) k st := by
  rcases lin_or L with h | h
  · rw [h]
  · conv => lhs; rw [h]
    exact runT_nil _ _ _
theorem lin_cnt (L : List Tx) : L.countP saysT = (linT L).countP saysT := by
  rcases lin_or L with h | h
  · rw [h]
  · conv => lhs; rw [h]
    rw [List.countP_append]; rfl
theorem lin_le (L : List Tx) : (linT L).length ≤ L.length := by
  rcases lin_or L with h | h
  · rw [h]; exact Nat.le_refl _
  · have := congrArg List.length h
    rw [List.length_append] at this
    omega
def agB (seen : List Tx) (nm : Tx) (k : Nat) : Bool := (seen.take k).any fun s => (s == nm && !(nm == nSource)) && !(nm == nZone)
theorem ag_step {seen : List Tx} {nm s : Tx} {k : Nat} (h : seen[k]? = some s) : agB seen nm (k + 1) = (agB seen nm k || ((s == nm && !(nm == nSource)) && !(nm == nZone))) := by
  rw [agB, List.take_add_one, h, List.any_append]
  simp [agB]
theorem ag_all (seen : List Tx) (nm : Tx) : (agB seen nm seen.length = true) ↔ (nm ≠ nSource ∧ nm ≠ nZone ∧ nm ∈ seen) := by
  rw [agB, List.take_length, List.any_eq_true]
  constructor
  · rintro ⟨s, hs, h⟩
    simp at h
    obtain ⟨⟨rfl, h1⟩, h2⟩ := h
    exact ⟨h1, h2, hs⟩
  · rintro ⟨h1, h2, h3⟩
    exact ⟨nm, h3, by simp [h1, h2]⟩
def inB (seen : List Tx) (x : Tx) (k : Nat) : Bool := (seen.take k).any (· == x)
theorem in_step {seen : List Tx} {x s : Tx} {k : Nat} (h : seen[k]? = some s) : inB seen x (k + 1) = (inB seen x k || (s == x)) := by
  rw [inB, List.take_add_one, h, List.any_append]
  simp [inB]
theorem in_all (seen : List Tx) (x : Tx) : inB seen x seen.length = decide (x ∈ seen) := by
  rw [inB, List.take_length, Bool.eq_iff_iff, List.any_eq_true]
  simp
theorem all_not {seen : List Tx} {i : Nat} {x : Tx} (h : nmL[i]? = some x) (hx : x ∉ seen) : ¬ allT seen = true := fun ha => by
  have := List.all_eq_true.1 ha x (List.mem_of_getElem? h)
  exact hx (by simpa using this)
theorem all_yes {seen : List Tx} (h : ∀ j, j < 9 → ∀ x, nmL[j]? = some x → x ∈ seen) : allT seen = true := List.all_eq_true.2 fun x hx => by
  obtain ⟨j, hj, rfl⟩ := List.mem_iff_getElem.1 hx
  have := h j hj _ (List.getElem?_eq_getElem hj)
  simpa using this
theorem line_src (P : Pl) {nm : Tx} (w : List Tx) (h : nm = nSource) : lineT P nm w = (srcT w).map fun s => { P with cf := { P.cf with L := P.cf.L ++ [s] } } := by
  rw [lineT, if_pos h]; cases srcT w <;> rfl
theorem line_zon (P : Pl) {nm : Tx} (w : List Tx) (h : nm = nZone) : lineT P nm w = (zonT w).map fun z => { P with zs := P.zs ++ [z] } := by
  rw [lineT, if_neg (by rw [h]; decide), if_pos h]; cases zonT w <;> rfl
theorem line_one (P : Pl) {nm : Tx} (w : List Tx) (h : nm ≠ nSource ∧ nm ≠ nZone) : lineT P nm w = oneT P nm w := by
  rw [lineT, if_neg h.1, if_neg h.2]
abbrev RPs := Pl × Option Nat × Nat × Option Nat × Nat × List ZO
def RPaR (r : Pl × Nat × Int) : Value → List It → List It → Prop := fun v I' H' => ∃ oa ca oz cz ZL, ZL.map (·.1) = r.1.zs ∧ v = .tuple #[plV r.1 oa ca oz cz, .int .i64 (r.2.1 : Int), .int .i64 r.2.2] ∧ I' = [] ∧ H' = plT 108 77 79 r.1 oa ca oz cz ZL
theorem RPaR.no {v : Value} {k : Nat} {e : Int} (hv : v = .tuple #[noP, .int .i64 (k : Int), .int .i64 e]) : RPaR (zeroPl, k, e) v [] [own none 0 108 48 0 [], own none 0 77 4 0 [], allI []] :=
  ⟨none, 0, none, 0, [], rfl, hv, rfl, rfl⟩
end Go.Proofs.YthndhipjfdgdfaaGreatDoor

namespace Go.Proofs.YthndhipjfdgdfaaGreatDoor
open Go.PK
/-! ### The reference's Parse -/
theorem rparse_any (t : Tx) : Spc Tryz.prog 17 #[strV t] [] [] (RPaR (parseT t)) := by
  refine Spc.enter Tryz.func17 rfl rfl rfl (fun w0 hw0 => ?_)
  refine CW.seq (CW.region (ef := [0]) (bk := []) (RL.alloc Tryz.zeroValue43 rfl rfl rfl rfl rfl ?_))
  intro b1
  refine RL.p rfl (RL.p rfl (RL.nil (NQ.seq (CW.seq (CW.seq (CW.rg (RL.p rfl (RL.lenTxt Tryz.runUnderlying9 rfl rfl rfl rfl (RL.p rfl (RL.nil (NQ.seq ?_)))))))))))
  refine CW.cond rfl (fun h0 => ?_) (fun h0 => ?_)
  · have h0' : 65536 < t.length := by simp at h0; omega
    refine CW.seq (CW.region (ef := [1]) (bk := [1]) (RL.buildS _ Tryz.zeroValue43 pl_43 rfl rfl rfl rfl rfl (RL.storeWq Tryz.sizeOf43 rfl rfl rfl rfl rfl rfl rfl ?_)))
    refine RL.p rfl (RL.p rfl (RL.nil (NQ.seq (CW.ret (RQ.seq ?_)))))
    rw [parseT, if_pos h0']
    refine RQ.allNil (RQ.ownNone (e := 77) 4 (RQ.ownNone (e := 108) 48 ?_))
    exact RQ.post (resW3 rfl rfl rfl rfl Tryz.isAgg43 Tryz.sizeOf43 (by repeat (first | exact List.Mem.head _ | apply List.Mem.tail)) rfl) (.keep (.keep (.keep (Split.none _)))) (RPaR.no (k := 0) rfl)
  · have h0' : ¬ 65536 < t.length := by simp at h0; omega
    have hlen := splL_len (c := 10#8) t
    have hct : t.count 10#8 ≤ t.length := List.count_le_length
    have hsum := splL_sum (c := 10#8) t
    have hll : ∀ s ∈ splL 10#8 t, s.length ≤ 70000 := fun s hs => by
      have h2 : s.length ≤ (splL 10#8 t).flatten.length := by
        obtain ⟨l1, l2, e⟩ := List.append_of_mem hs
        rw [e]; simp; omega
      omega
    have hp : parseT t = (if 64 < (linT (splL 10#8 t)).countP saysT then (zeroPl, 0, 3)
      else match runT (linT (splL 10#8 t)) 0 (zeroPl, []) with
      | .inl k => (zeroPl, k, 380)
      | .inr st => if allT st.2 = true then (if st.1.ok = true then (st.1, 0, 0) else (zeroPl, 0, 310)) else (zeroPl, 0, 380) : Pl × Nat × Int) := by rw [parseT, if_neg h0', ← lin_cnt, ← lin_run]; rfl
    rw [hp]
    clear hp
    refine CW.skip (NQ.seq (CW.seq (CW.region (ef := [1]) (bk := [1]) (RL.p rfl (RL.callq (rlines_any t (by omega)) Tryz.call47 rfl rfl rfl rfl rfl (.inr rfl) ?_)))))
    rintro _ _ _ ⟨bl, cap, cl, rfl, rfl, rfl⟩
    generalize splL 10#8 t = L at hlen hsum hll ⊢
    have hget := fun i => linT_get (L := L) (i := i)
    have hle := lin_le L
    generalize linT L = M at hget hle ⊢
    generalize hn : M.length = n at hget hle ⊢
    refine RL.p rfl (RL.nil (NQ.seq (CW.ok [2, 5] rfl (CW.seq (CW.freezeP (A := [own (some bl) cap 9 1 L.length (L.map strV)]) (B := [cel b1 (plC zeroPl (.slice none 0 0) (.slice none 0 0)) 43]) (by repeat (first | exact Pick.nil | apply Pick.take | apply Pick.leave)) rfl ?_)))))
    refine CW.genI (fun J hJ => ?_)
    have mL : own (some bl) cap 9 1 L.length (L.map strV) ∈ J := hJ _ (List.mem_cons_self ..)
    clear hJ
    refine CW.rg (RL.p rfl (RL.nil (NQ.seq (CW.seq (CW.seq (CW.rg (RL.p rfl (RL.nil (NQ.seq (CW.block ?_))))))))))
    have hS : ∀ i s, i < n → M[i]? = some s → RdI J ⟨bl, 0 + i * 1, none⟩ (strV s) := fun i s hi h => ownRdI mL (by rw [List.getElem?_map, ← hget i hi, h]; rfl)
    refine CW.loop (γ := Nat) (fun i => i ≤ n) (fun i => [(2, .pointer (some ⟨b1, 0, none⟩)), (5, .slice (some ⟨bl, 0, none⟩) n cl), (6, .int .i64 (((M.take i).countP saysT : Nat) : Int)), (7, .int .i64 (i : Int))]) (fun _ => J) (fun _ => [cel b1 (plC zeroPl (.slice none 0 0) (.slice none 0 0)) 43]) (fun i => n - i) 0 (by omega) (.cons rfl (.cons rfl (.cons rfl (.cons rfl .nil)))) (fun w h => h.rea (fun _ h => h) (by repeat (first | exact Rea.nil | (apply Rea.cons; (solve | (repeat (first | exact Del.here | apply Del.there))))))) ?_
    intro i hi
    have hcl : (M.take i).countP saysT ≤ i := by
      have h1 := List.countP_le_length (p := saysT) (l := M.take i)
      rw [List.length_take] at h1; omega
    refine CW.seq (CW.seq (CW.rg (RL.p rfl (RL.p rfl (RL.lenS Tryz.runUnderlying62 rfl rfl rfl rfl (RL.p rfl (RL.nil (NQ.seq ?_))))))))
    refine CW.cond rfl (fun hlt => ?_) (fun hlt => ?_)
    · have hlt' : i < n := by simp at hlt; omega
      have hx := List.getElem?_eq_getElem (show i < M.length by omega)
      generalize M[i] = s at hx
      have hst := cnt_step hx
      have fS := hS i s hlt' hx
      refine CW.skip (NQ.seq (CW.seq (CW.block (CW.seq (CW.rg (RL.p rfl (RL.p rfl (RL.idxAt (j := i) Tryz.runUnderlying62 Tryz.sizeOf9 rfl rfl rfl rfl rfl rfl ((show i < n from hlt')) (RL.loadq Tryz.isAgg9 rfl rfl rfl rfl ?_)))))))))
      refine RL.callvq (rsays_any s) Tryz.call48 rfl rfl rfl rfl ?_
      refine RL.nil (NQ.seq (CW.ok [2, 5, 6, 7, 37] rfl ?_))
      refine CW.cond rfl (fun hs => ?_) (fun hs => ?_)
      · rw [if_pos hs] at hst
        refine CW.rg (RL.p rfl (RL.bx rfl (wrapV_i64 (by omega) (by omega)) ?_))
        refine RL.p rfl (RL.nil (NQ.block (NQ.seq (CW.rg (RL.p rfl (RL.bx rfl (wrapV_i64 (by omega) (by omega)) ?_))))))
        refine RL.p rfl (RL.nil ?_)
        refine NQ.round (g := i) (i + 1) hlt' (by omega) (.cons rfl (.cons rfl (.cons (k := 6) ?_ (.cons rfl .nil)))) (fun w h => h.rea (fun _ h => h) (by repeat (first | exact Rea.nil | (apply Rea.cons; (solve | (repeat (first | exact Del.here | apply Del.there)))))))
        rw [hst]; rfl
      · rw [if_neg (by rw [hs]; decide)] at hst
        refine CW.skip (NQ.block (NQ.seq (CW.rg (RL.p rfl (RL.bx rfl (wrapV_i64 (by omega) (by omega)) ?_)))))
        refine RL.p rfl (RL.nil ?_)
        refine NQ.round (g := i) (i + 1) hlt' (by omega) (.cons rfl (.cons rfl (.cons (k := 6) ?_ (.cons rfl .nil)))) (fun w h => h.rea (fun _ h => h) (by repeat (first | exact Rea.nil | (apply Rea.cons; (solve | (repeat (first | exact Del.here | apply Del.there)))))))
        rw [hst]; rfl
    · have hin : n = i := by simp at hlt; omega
      subst hin
      rw [List.take_of_length_le (by omega)] at hcl ⊢
      refine CW.exit (XQ.seq (XQ.seq (XQ.hit (NQ.seq (CW.seq (CW.seq (CW.rg (RL.p rfl (RL.p rfl (RL.nil (NQ.seq (CW.ok [2, 5, 41] rfl ?_))))))))))))
      refine CW.cond rfl (fun h64 => ?_) (fun h64 => ?_)
      · have h64' : 64 < M.countP saysT := by simp at h64; omega
        rw [if_pos h64']
        refine CW.seq (CW.region (ef := [1]) (bk := [1]) (RL.buildS _ Tryz.zeroValue43 pl_43 rfl rfl rfl rfl rfl (RL.storeWq Tryz.sizeOf43 rfl rfl rfl rfl rfl rfl rfl ?_)))
        refine RL.p rfl (RL.p rfl (RL.nil (NQ.seq (CW.ret (RQ.seq (RQ.allNil (RQ.ownNone (e := 77) 4 (RQ.ownNone (e := 108) 48 ?_))))))))
        exact RQ.post (resW3 rfl rfl rfl rfl Tryz.isAgg43 Tryz.sizeOf43 (by repeat (first | exact List.Mem.head _ | apply List.Mem.tail)) rfl) (.keep (.keep (.keep (Split.none _)))) (RPaR.no (k := 0) rfl)
      · have h64' : ¬ 64 < M.countP saysT := by simp at h64; omega
        rw [if_neg h64']
        clear h64 h64' hcl hi
        generalize hR : runT M 0 (zeroPl, []) = R
        refine CW.skip (NQ.seq (CW.seq (CW.region (ef := [1, 2]) (bk := [2]) (RL.buildS _ Tryz.zeroValue43 pl_43 rfl rfl rfl rfl rfl (RL.alloc Tryz.zeroValue43 rfl rfl rfl rfl rfl ?_)))))
        intro b2
        refine RL.storeWq Tryz.sizeOf43 rfl rfl rfl rfl rfl rfl rfl ?_
        refine RL.nil (NQ.seq (CW.seq (CW.region (ef := [0]) (bk := []) (RL.buildOwn [] Tryz.runUnderlying62 Tryz.sizeOf9 Tryz.zeroValue9 rfl rfl (by decide) (by decide) rfl (by decide) rfl rfl rfl rfl rfl rfl ?_))))
        intro b3
        refine RL.p rfl (RL.nil (NQ.seq (CW.seq (CW.seq (CW.rg (RL.p rfl (RL.nil (NQ.seq (CW.block ?_)))))))))
        refine CW.loop (γ := Nat × RPs × List Tx × Option Nat × Nat) (fun g => ((g.1 ≤ n ∧ g.2.1.2.2.2.2.2.map (·.1) = g.2.1.1.zs) ∧ Inv g.1 g.2.1.1 ∧ g.2.2.1.length ≤ g.1) ∧ runT (M.drop g.1) g.1 (g.2.1.1, g.2.2.1) = R) (fun g => [(2, .pointer (some ⟨b1, 0, none⟩)), (5, .slice (some ⟨bl, 0, none⟩) n cl), (8, .pointer (some ⟨b2, 0, none⟩)), (9, slO g.2.2.2.1 g.2.2.1.length g.2.2.2.2), (10, .int .i64 (g.1 : Int))]) (fun _ => J) (fun g => [cel b2 (plC g.2.1.1 (slO g.2.1.2.1 g.2.1.1.cf.L.length g.2.1.2.2.1) (slO g.2.1.2.2.2.1 g.2.1.1.zs.length g.2.1.2.2.2.2.1)) 43, own g.2.2.2.1 g.2.2.2.2 9 1 g.2.2.1.length (g.2.2.1.map strV), own g.2.1.2.1 g.2.1.2.2.1 108 48 g.2.1.1.cf.L.length (g.2.1.1.cf.L.flatMap Sr.cells), own g.2.1.2.2.2.1 g.2.1.2.2.2.2.1 77 4 g.2.1.1.zs.length (g.2.1.2.2.2.2.2.flatMap znO), allI (g.2.1.2.2.2.2.2.map (znT 79)), cel b1 (plC zeroPl (.slice none 0 0) (.slice none 0 0)) 43]) (fun g => n - g.1) (0, (zeroPl, none, 0, none, 0, []), [], some b3, 0) ⟨⟨⟨Nat.zero_le _, rfl⟩, inv0, Nat.le_refl _⟩, hR⟩ (.cons rfl (.cons rfl (.cons rfl (.cons rfl (.cons rfl .nil))))) (fun w h => ?_) ?_
        · exact (Cls.pack (l := []) (Cls.ownNone (e := 77) (sz := 4) (Cls.ownNone (e := 108) (sz := 48) h))).rea (fun _ h => h) (by repeat (first | exact Rea.nil | (apply Rea.cons; (solve | (repeat (first | exact Del.here | apply Del.there))))))
        rintro ⟨i, ⟨P, oa, ca, oz, cz, ZL⟩, seen, os, cs⟩ ⟨⟨⟨hi, hz⟩, hinv, hsn⟩, hrun⟩
        dsimp only at hi hz hinv hsn hrun ⊢
        have hnl := hinv.nl
        have hnz := hinv.nz
        have hlz : ZL.length = P.zs.length := by rw [← hz, List.length_map]
        have hpr := fun sl zl => pl_len (P := P) hinv.cm sl zl
        refine CW.seq (CW.seq (CW.rg (RL.p rfl (RL.p rfl (RL.lenS Tryz.runUnderlying62 rfl rfl rfl rfl (RL.p rfl (RL.nil (NQ.seq ?_))))))))
        refine CW.cond rfl (fun hlt => ?_) (fun hlt => ?_)
        · have hlt' : i < n := by simp at hlt; omega
          have hx := List.getElem?_eq_getElem (show i < M.length by omega)
          rw [List.drop_eq_getElem_cons (show i < M.length by omega), runT_cons] at hrun
          generalize M[i]'(by omega) = s at hx hrun
          have hsl := hll s (List.mem_of_getElem? ((hget i hlt').symm.trans hx))
          have fS := hS i s hlt' hx
          refine CW.skip (NQ.seq (CW.seq (CW.block (CW.seq (CW.seq (CW.rg (RL.p rfl (RL.p rfl (RL.idxAt (j := i) Tryz.runUnderlying62 Tryz.sizeOf9 rfl rfl rfl rfl rfl rfl ((show i < n from hlt')) (RL.loadq Tryz.isAgg9 rfl rfl rfl rfl ?_))))))))))
          refine RL.callvq (rsays_any s) Tryz.call48 rfl rfl rfl rfl ?_
          refine RL.p rfl (RL.nil (NQ.seq (CW.ok [2, 5, 8, 9, 10, 56] rfl ?_)))
          refine CW.cond rfl (fun hs => ?_) (fun hs => ?_)
          · have hs' : ¬ saysT s = true := by simpa using hs
            rw [if_neg hs'] at hrun
            refine CW.exit (XQ.seq (XQ.hit (NQ.seq (CW.rg (RL.p rfl (RL.bx rfl (wrapV_i64 (by omega) (by omega)) ?_))))))
            refine RL.p rfl (RL.nil ?_)
            exact NQ.round (g := (i, (P, oa, ca, oz, cz, ZL), seen, os, cs)) (i + 1, (P, oa, ca, oz, cz, ZL), seen, os, cs) ⟨⟨⟨hlt', hz⟩, hinv.mono (Nat.le_succ _), Nat.le_succ_of_le hsn⟩, hrun⟩ (by show n - (i + 1) < n - i; omega) (.cons rfl (.cons rfl (.cons rfl (.cons rfl (.cons rfl .nil))))) (fun w h => h.rea (fun _ h => h) (by repeat (first | exact Rea.nil | (apply Rea.cons; (solve | (repeat (first | exact Del.here | apply Del.there)))))))
          ·
            have hs' : saysT s = true := by simpa using hs
            rw [if_pos hs'] at hrun
            have hwl := splL_len (c := 32#8) s
            have hcw : s.count 32#8 ≤ s.length := List.count_le_length
            refine CW.skip (NQ.seq (CW.seq (CW.region (ef := [4]) (bk := [4]) (RL.p rfl (RL.p rfl (RL.idxAt (j := i) Tryz.runUnderlying62 Tryz.sizeOf9 rfl rfl rfl rfl rfl rfl ((show i < n from hlt')) (RL.loadq Tryz.isAgg9 rfl rfl rfl rfl ?_)))))))
            refine RL.callq (rspl_any 32#8 s (by omega)) Tryz.call49 rfl rfl rfl rfl rfl (.inr rfl) ?_
            rintro _ _ _ ⟨ow, cw, rfl, rfl, rfl⟩
            cases hW : splL 32#8 s with
            | nil => exact absurd hW (splL_ne _)
            | cons nm w =>
            rw [hW] at hwl
            have hst : stepT (P, seen) s = _ := stepT_cons hW
            generalize hmw : (nm :: w).length = mw at hwl
            refine RL.p rfl (RL.nil (NQ.seq (CW.ok [2, 5, 8, 9, 10, 11] rfl (CW.seq ?_))))
            refine CW.fact (p := ow.isSome = true ∧ mw ≤ cw) (fun w' hC => ?_) (fun ⟨how, hcw2⟩ => ?_)
            · have h := hC.s.h _ (List.Mem.head _)
              refine ⟨?_, own_cap h⟩
              cases ow with
              | none => have := own_none h; omega
              | some b => rfl
            obtain ⟨bw, rfl⟩ := Option.isSome_iff_exists.1 how
            refine CW.freezeP (A := [own (some bw) cw 9 1 mw ((nm :: w).map strV)]) (B := [cel b2 (plC P (slO oa P.cf.L.length ca) (slO oz P.zs.length cz)) 43, own os cs 9 1 seen.length (seen.map strV), own oa ca 108 48 P.cf.L.length (P.cf.L.flatMap Sr.cells), own oz cz 77 4 P.zs.length (ZL.flatMap znO), allI (ZL.map (znT 79)), cel b1 (plC zeroPl (.slice none 0 0) (.slice none 0 0)) 43]) (by repeat (first | exact Pick.nil | apply Pick.take | apply Pick.leave)) rfl ?_
            refine CW.genI (fun J2 hJ => ?_)
            have nW : own (some bw) cw 9 1 mw ((nm :: w).map strV) ∈ J2 := hJ _ (List.mem_cons_self ..)
            have hJ2 : ∀ x ∈ J, x ∈ J2 := fun x hx => hJ _ (List.mem_append_right _ hx)
            clear hJ fS
            have hln := rline_any P oa oz ca cz _ _ mw cw ZL nm w (some ⟨bw, 0, none⟩) rfl rfl hlz hinv.cm (fun s hs => (hinv.L s hs).rt) (by omega) (by omega) hmw hcw2 (by omega)
            refine CW.cutG (γ := Nat × RPs) (fun g => (g.2.1.cf.cm.length = 32 ∧ g.2.2.2.2.2.2.map (·.1) = g.2.1.zs) ∧ ∀ q, lineT P nm w = some q → g.2.1 = q) (fun g => [(2, .pointer (some ⟨b1, 0, none⟩)), (5, .slice (some ⟨bl, 0, none⟩) n cl), (8, .pointer (some ⟨b2, 0, none⟩)), (9, slO os seen.length cs), (10, .int .i64 (i : Int)), (11, .slice (some ⟨bw, 0, none⟩) mw cw), (12, .pointer (some ⟨g.1, 0, none⟩)), (13, .bool (lineT P nm w).isSome)]) (fun _ => J2) (fun g => [cel g.1 (plC g.2.1 (slO g.2.2.1 g.2.1.cf.L.length g.2.2.2.1) (slO g.2.2.2.2.1 g.2.1.zs.length g.2.2.2.2.2.1)) 43, cel b2 (plC P (slO oa P.cf.L.length ca) (slO oz P.zs.length cz)) 43, own os cs 9 1 seen.length (seen.map strV), own g.2.2.1 g.2.2.2.1 108 48 g.2.1.cf.L.length (g.2.1.cf.L.flatMap Sr.cells), own g.2.2.2.2.1 g.2.2.2.2.2.1 77 4 g.2.1.zs.length (g.2.2.2.2.2.2.flatMap znO), allI (g.2.2.2.2.2.2.map (znT 79)), cel b1 (plC zeroPl (.slice none 0 0) (.slice none 0 0)) 43]) ?_ ?_
            ·
              refine CW.region (ef := [2, 6, 7]) (bk := [2, 7]) (RL.loadW Tryz.isAgg43 Tryz.sizeOf43 rfl rfl rfl rfl (by repeat (first | exact List.Mem.head _ | apply List.Mem.tail)) (hpr _ _) ?_)
              refine RL.p rfl (RL.call (hln) Tryz.call50 rfl rfl rfl rfl rfl (by repeat (first | exact Pick.nil | apply Pick.take | apply Pick.leave)) (Lend.ownI nW (Lend.own (by repeat (first | exact List.Mem.head _ | apply List.Mem.tail)) (Lend.own (by repeat (first | exact List.Mem.head _ | apply List.Mem.tail)) .nil))) (.inr rfl) ?_)
              rintro _ _ _ (⟨hnm, r, ob, cap, hr, rfl, hrs, rfl, rfl⟩ | ⟨hnm, z, oc, cc, ob, cap, rfl, hzs, rfl, rfl⟩ | ⟨hnm, Q, ⟨hQc, hQL, hQz⟩, rfl, hQ, rfl, rfl⟩)
              · have hL := line_src P w hnm
                have hb : (lineT P nm w).isSome = (srcT w).isSome := by rw [hL]; cases srcT w <;> rfl
                refine RL.p rfl (RL.p rfl (RL.p rfl (RL.alloc Tryz.zeroValue43 rfl rfl rfl rfl rfl ?_)))
                intro b4
                refine RL.storeW Tryz.sizeOf43 rfl rfl rfl rfl rfl rfl rfl (pl_ones _ rfl rfl) (by repeat (first | exact Upd.here | apply Upd.there)) (hpr _ _) rfl ?_
                refine RL.p rfl (RL.nil ?_)
                refine NQ.midG (b4, { P with cf := { P.cf with L := P.cf.L ++ [r] } }, ob, cap, oz, cz, ZL) ⟨⟨hinv.cm, hz⟩, fun q hq => ?_⟩ (.cons rfl (.cons rfl (.cons rfl (.cons rfl (.cons rfl (.cons rfl (.cons rfl (.cons (k := 13) (by rw [hb]; rfl) .nil)))))))) (fun w h => ?_)
                · rw [hL] at hq
                  cases hs : srcT _ with
                  | none => rw [hs] at hq; cases hq
                  | some s => rw [hs] at hq; rw [hrs s hs]; exact Option.some.inj hq
                · simp only [List.length_append, List.length_cons, List.length_nil, Nat.zero_add, List.flatMap_append, List.flatMap_cons, List.flatMap_nil, List.append_nil]
                  exact h.rea (fun _ h => h) (by repeat (first | exact Rea.nil | (apply Rea.cons; (solve | (repeat (first | exact Del.here | apply Del.there))))))
              · have hL := line_zon P w hnm
                have hb : (lineT P nm w).isSome = (zonT w).isSome := by rw [hL]; cases zonT w <;> rfl
                refine RL.p rfl (RL.p rfl (RL.p rfl (RL.alloc Tryz.zeroValue43 rfl rfl rfl rfl rfl ?_)))
                intro b4
                refine RL.storeW Tryz.sizeOf43 rfl rfl rfl rfl rfl rfl rfl (pl_ones _ rfl rfl) (by repeat (first | exact Upd.here | apply Upd.there)) (hpr _ _) rfl ?_
                refine RL.p rfl (RL.nil ?_)
                refine NQ.midG (b4, { P with zs := P.zs ++ [z] }, oa, ca, ob, cap, ZL ++ [(z, oc, cc)]) ⟨⟨hinv.cm, by show _ = P.zs ++ [z]; rw [List.map_append, hz]; rfl⟩, fun q hq => ?_⟩ (.cons rfl (.cons rfl (.cons rfl (.cons rfl (.cons rfl (.cons rfl (.cons rfl (.cons (k := 13) (by rw [hb]; rfl) .nil)))))))) (fun w h => ?_)
                · rw [hL] at hq
                  cases hs : zonT _ with
                  | none => rw [hs] at hq; cases hq
                  | some s => rw [hs] at hq; rw [hzs s hs]; exact Option.some.inj hq
                · simp only [List.length_append, List.length_cons, List.length_nil, Nat.zero_add, List.flatMap_append, List.flatMap_cons, List.flatMap_nil, List.append_nil]
                  exact (Cls.pushA (zo_perm _ ZL (z, oc, cc)) (h.rea (H' := [own oc cc 79 2 z.L.length (z.L.flatMap Pt.cells), allI (ZL.map (znT 79)), cel b4 (plC P (slO oa P.cf.L.length ca) (slO ob (P.zs.length + 1) cap)) 43, cel b2 (plC P (slO oa P.cf.L.length ca) (slO oz P.zs.length cz)) 43, own os cs 9 1 seen.length (seen.map strV), own oa ca 108 48 P.cf.L.length (P.cf.L.flatMap Sr.cells), own ob cap 77 4 (P.zs.length + 1) (ZL.flatMap znO ++ znO (z, oc, cc)), cel b1 (plC zeroPl (.slice none 0 0) (.slice none 0 0)) 43]) (fun _ h => h) (by repeat (first | exact Rea.nil | (apply Rea.cons; (solve | (repeat (first | exact Del.here | apply Del.there)))))))).rea (fun _ h => h) (by repeat (first | exact Rea.nil | (apply Rea.cons; (solve | (repeat (first | exact Del.here | apply Del.there))))))
              · have hL := line_one P w hnm
                have hqr := fun sl zl => pl_len (P := Q) hQc sl zl
                refine RL.p rfl (RL.p rfl (RL.p rfl (RL.alloc Tryz.zeroValue43 rfl rfl rfl rfl rfl ?_)))
                intro b4
                refine RL.storeW Tryz.sizeOf43 rfl rfl rfl rfl rfl rfl rfl (pl_ones _ rfl rfl) (by repeat (first | exact Upd.here | apply Upd.there)) (hqr _ _) rfl ?_
                refine RL.p rfl (RL.nil ?_)
                refine NQ.midG (b4, Q, oa, ca, oz, cz, ZL) ⟨⟨hQc, hz.trans hQz.symm⟩, fun q hq => hQ q (hL ▸ hq)⟩ (.cons rfl (.cons rfl (.cons rfl (.cons rfl (.cons rfl (.cons rfl (.cons rfl (.cons (k := 13) (by rw [hL]; rfl) .nil)))))))) (fun w h => ?_)
                dsimp only
                rw [hQL, hQz]
                exact h.rea (fun _ h => h) (by repeat (first | exact Rea.nil | (apply Rea.cons; (solve | (repeat (first | exact Del.here | apply Del.there))))))
            rintro ⟨bq, ⟨Q, qa, da, qz, dz, YL⟩⟩ ⟨⟨hQc, hQz⟩, hQ⟩
            dsimp only at hQc hQz hQ ⊢
            have hqr := fun sl zl => pl_len (P := Q) hQc sl zl
            have hpos : 0 < mw := by rw [← hmw]; exact Nat.succ_pos _
            refine CW.seq (CW.rg (RL.p rfl (RL.nil (NQ.seq (CW.seq (CW.seq (CW.rg (RL.p rfl (RL.nil (NQ.seq (CW.block ?_)))))))))))
            refine CW.fact (p := os = none → seen.length = 0) (fun w hC e => by
              have h := hC.s.h _ (List.Mem.tail _ (List.Mem.tail _ (List.Mem.head _)))
              subst e
              exact own_none h) (fun hos => ?_)
            have fW : RdI J2 ⟨bw, 0 + 0 * 1, none⟩ (strV nm) := ownRdI nW rfl
            refine CW.loop (γ := Nat) (fun k => k ≤ seen.length) (fun k => [(2, .pointer (some ⟨b1, 0, none⟩)), (5, .slice (some ⟨bl, 0, none⟩) n cl), (8, .pointer (some ⟨b2, 0, none⟩)), (9, slO os seen.length cs), (10, .int .i64 (i : Int)), (11, .slice (some ⟨bw, 0, none⟩) mw cw), (12, .pointer (some ⟨bq, 0, none⟩)), (13, .bool (lineT P nm w).isSome), (14, .bool (agB seen nm k)), (15, .int .i64 (k : Int))]) (fun _ => J2) (fun _ => [cel bq (plC Q (slO qa Q.cf.L.length da) (slO qz Q.zs.length dz)) 43, cel b2 (plC P (slO oa P.cf.L.length ca) (slO oz P.zs.length cz)) 43, own os cs 9 1 seen.length (seen.map strV), own qa da 108 48 Q.cf.L.length (Q.cf.L.flatMap Sr.cells), own qz dz 77 4 Q.zs.length (YL.flatMap znO), allI (YL.map (znT 79)), cel b1 (plC zeroPl (.slice none 0 0) (.slice none 0 0)) 43]) (fun k => seen.length - k) 0 (Nat.zero_le _) (.cons rfl (.cons rfl (.cons rfl (.cons rfl (.cons rfl (.cons rfl (.cons rfl (.cons rfl (.cons rfl (.cons rfl .nil)))))))))) (fun w h => h.rea (fun _ h => h) (by repeat (first | exact Rea.nil | (apply Rea.cons; (solve | (repeat (first | exact Del.here | apply Del.there))))))) ?_
            intro k hk
            refine CW.seq (CW.seq (CW.rg (RL.p rfl (RL.p rfl (RL.lenS Tryz.runUnderlying62 rfl rfl rfl rfl (RL.p rfl (RL.nil (NQ.seq ?_))))))))
            refine CW.cond rfl (fun hkl => ?_) (fun hkl => ?_)
            · have hkl' : k < seen.length := by simp at hkl; omega
              cases os with
              | none => exact absurd (hos rfl) (by omega)
              | some bs =>
              obtain ⟨s2, hs2⟩ : ∃ s2, seen[k]? = some s2 := ⟨_, List.getElem?_eq_getElem hkl'⟩
              refine CW.skip (NQ.seq (CW.seq (CW.block (CW.regionD (Sq.of [0, 1, 2, 3, 4, 5, 6, 7, 8, 9, 10, 11, 12, 13, 14, 15, 16, 17, 18, 19, 20, 21, 22, 23]) [] [] [0, 1, 2, 3, 4, 6, 7, 9, 10, 11, 12, 14, 15, 16, 17, 18, 20, 21, 22, 23] mixed (by kernel_rfl) ?_))))
              refine RL.p rfl (RL.p rfl ?_)
              apply RL.orB (d := 75) (dp := 96) (l' := (Sq.of [23])) rfl (sK [2, 5, 8, 9, 10, 11, 12, 13, 14, 15] rfl)
              ·
                intro hb2 K2
                refine RL.p rfl (RL.p rfl (RL.idxAt (j := k) Tryz.runUnderlying62 Tryz.sizeOf9 rfl rfl rfl rfl rfl rfl hkl' (RL.load Tryz.isAgg9 rfl rfl rfl rfl (ownRd (by repeat (first | exact List.Mem.head _ | apply List.Mem.tail)) hs2) ?_)))
                refine RL.p rfl (RL.idxAt (j := 0) Tryz.runUnderlying62 Tryz.sizeOf9 rfl rfl rfl rfl rfl rfl hpos (RL.loadq Tryz.isAgg9 rfl rfl rfl rfl ?_))
                refine RL.cmp rfl rfl rfl rfl rfl (fun w => eql_txt s2 nm w) ?_
                refine RL.p rfl ?_
                apply RL.andB (d := 84) (dp := 89) (l' := (Sq.of [16, 17, 18, 19, 20, 21, 22, 23])) rfl (sK [2, 5, 8, 9, 10, 11, 12, 13, 14, 15, 75] rfl)
                ·
                  intro hb11 K11
                  refine RL.p rfl (RL.idxAt (j := 0) Tryz.runUnderlying62 Tryz.sizeOf9 rfl rfl rfl rfl rfl rfl hpos (RL.loadq Tryz.isAgg9 rfl rfl rfl rfl ?_))
                  refine RL.cmp rfl rfl rfl rfl rfl (fun w => neq_txt nm nSource w) ?_
                  refine RL.p rfl ?_
                  exact K11 _ (.cons rfl (sK [2, 5, 8, 9, 10, 11, 12, 13, 14, 15, 75] rfl))
                ·
                  intro hb11 K11
                  refine RL.p rfl (RL.p rfl (RL.p rfl (RL.p rfl (RL.p rfl ?_))))
                  exact K11 _ (.cons rfl (sK [2, 5, 8, 9, 10, 11, 12, 13, 14, 15, 75] rfl))
                refine RL.p rfl ?_
                apply RL.andB (d := 90) (dp := 95) (l' := (Sq.of [22, 23])) rfl (sK [2, 5, 8, 9, 10, 11, 12, 13, 14, 15, 75] rfl)
                ·
                  intro hb17 K17
                  refine RL.p rfl (RL.idxAt (j := 0) Tryz.runUnderlying62 Tryz.sizeOf9 rfl rfl rfl rfl rfl rfl hpos (RL.loadq Tryz.isAgg9 rfl rfl rfl rfl ?_))
                  refine RL.cmp rfl rfl rfl rfl rfl (fun w => neq_txt nm nZone w) ?_
                  refine RL.p rfl ?_
                  exact K17 _ (.cons rfl (sK [2, 5, 8, 9, 10, 11, 12, 13, 14, 15, 75] rfl))
                ·
                  intro hb17 K17
                  refine RL.p rfl (RL.p rfl (RL.p rfl (RL.p rfl (RL.p rfl ?_))))
                  exact K17 _ (.cons rfl (sK [2, 5, 8, 9, 10, 11, 12, 13, 14, 15, 75] rfl))
                refine RL.p rfl ?_
                exact K2 _ (.cons rfl (sK [2, 5, 8, 9, 10, 11, 12, 13, 14, 15] rfl))
              ·
                intro hb2 K2
                refine RL.p rfl (RL.p rfl (RL.p rfl (RL.p rfl (RL.p rfl (RL.p rfl (RL.p rfl (RL.p rfl (RL.p rfl (RL.p rfl (RL.p rfl (RL.p rfl (RL.p rfl (RL.p rfl ?_)))))))))))))
                refine RL.p rfl (RL.p rfl (RL.p rfl (RL.p rfl (RL.p rfl (RL.p rfl (RL.p rfl ?_))))))
                exact K2 _ (.cons rfl (sK [2, 5, 8, 9, 10, 11, 12, 13, 14, 15] rfl))
              refine RL.p rfl (RL.nil (NQ.block (NQ.seq (CW.rg (RL.p rfl (RL.bx rfl (wrapV_i64 (by omega) (by omega)) ?_))))))
              refine RL.p rfl (RL.nil ?_)
              exact NQ.round (g := k) (k + 1) hkl' (by show seen.length - (k + 1) < seen.length - k; omega) (.cons rfl (.cons rfl (.cons rfl (.cons rfl (.cons rfl (.cons rfl (.cons rfl (.cons rfl (.cons (k := 14) (by rw [ag_step hs2]; rfl) (.cons rfl .nil)))))))))) (fun w h => h.rea (fun _ h => h) (by repeat (first | exact Rea.nil | (apply Rea.cons; (solve | (repeat (first | exact Del.here | apply Del.there)))))))
            · have hkn : k = seen.length := by simp at hkl; omega
              subst hkn
              refine CW.exit (XQ.seq (XQ.seq (XQ.hit (NQ.seq (CW.seq (CW.seq (CW.rg (RL.p rfl (RL.p rfl (RL.p rfl ?_))))))))))
              apply RL.orB (d := 99) (dp := 101) (l' := (Sq.of [])) rfl (sK [2, 5, 8, 9, 10, 11, 12] rfl)
              ·
                intro hb3 K3
                refine RL.p rfl (RL.p rfl ?_)
                exact K3 _ (.cons rfl (sK [2, 5, 8, 9, 10, 11, 12] rfl))
              ·
                intro hb3 K3
                refine RL.p rfl (RL.p rfl ?_)
                exact K3 _ (.cons rfl (sK [2, 5, 8, 9, 10, 11, 12] rfl))
              refine RL.nil (NQ.seq ?_)
              refine CW.cond rfl (fun hbad => ?_) (fun hbad => ?_)
              · have hstN : stepT (P, seen) s = none := by
                  rw [hst]
                  cases hl : lineT P nm w with
                  | none => rfl
                  | some q =>
                    have ha : agB seen nm seen.length = true := by rw [hl] at hbad; simpa using hbad
                    exact if_pos ((ag_all seen nm).1 ha)
                rw [hstN] at hrun
                have hrun : R = .inl (i + 1) := hrun.symm
                subst hrun
                refine CW.seq (CW.region (ef := [3]) (bk := [3]) (RL.buildS _ Tryz.zeroValue43 pl_43 rfl rfl rfl rfl rfl (RL.p rfl (RL.bx rfl (wrapV_i64 (by omega) (by omega)) ?_))))
                refine RL.storeWq Tryz.sizeOf43 rfl rfl rfl rfl rfl rfl rfl ?_
                refine RL.p rfl (RL.p rfl (RL.nil (NQ.seq (CW.ret (RQ.seq (RQ.block (RQ.seq (RQ.seq (RQ.block (RQ.seq (RQ.allNil (RQ.ownNone (e := 77) 4 (RQ.ownNone (e := 108) 48 ?_)))))))))))))
                exact RQ.post (resW3 rfl rfl rfl rfl Tryz.isAgg43 Tryz.sizeOf43 (by repeat (first | exact List.Mem.head _ | apply List.Mem.tail)) rfl) (.keep (.keep (.keep (Split.none _)))) (RPaR.no (k := i + 1) rfl)
              · obtain ⟨hok, hag⟩ : (lineT P nm w).isSome = true ∧ ¬ agB seen nm seen.length = true := by
                  rw [Bool.or_eq_false_iff] at hbad
                  refine ⟨by simpa using hbad.1, by rw [hbad.2]; exact Bool.false_ne_true⟩
                obtain ⟨q, hq⟩ := Option.isSome_iff_exists.1 hok
                obtain rfl := hQ q hq
                have hstS : stepT (P, seen) s = some (Q, seen ++ [nm]) := by rw [hst, hq]; exact if_neg (fun h => hag ((ag_all seen nm).2 h))
                rw [hstS] at hrun
                have hinv2 := stepT_inv hinv hsl hstS
                refine CW.skip (NQ.seq (CW.regionD (.cons 1 (.cons 2 (.cons 3 (.cons 4 (.fork [0, 5] (fun k => (bif Nat.beq k 0 then (Sq.of [5, 6, 7, 8]) else (.fork [0, 6] (fun k => (bif Nat.beq k 0 then (Sq.of [6, 7, 8]) else (Sq.of [0, 7, 8]))))))))))) [5, 6, 7] [6, 7] [1, 2, 3, 4, 8] mixed (by kernel_rfl) ?_))
                refine RL.p rfl (RL.p rfl (RL.idxAt (j := 0) Tryz.runUnderlying62 Tryz.sizeOf9 rfl rfl rfl rfl rfl rfl hpos (RL.loadTq Tryz.isAgg9 rfl rfl rfl rfl ?_)))
                refine RL.fork ⟨?_, ?_, trivial⟩
                ·
                  refine RL.loadW Tryz.isAgg43 Tryz.sizeOf43 rfl rfl rfl rfl (by repeat (first | exact List.Mem.head _ | apply List.Mem.tail)) (hqr _ _) ?_
                  refine RL.buildSlice [_] Tryz.runUnderlying62 Tryz.sizeOf9 Tryz.zeroValue9 rfl rfl (by decide) (by decide) rfl rfl rfl rfl rfl rfl ?_
                  intro b4
                  refine RL.appendq el_62 rfl rfl rfl rfl rfl rfl rfl ?_
                  intro ob1 cap1 ho1
                  refine RL.storeW Tryz.sizeOf43 rfl rfl rfl rfl rfl rfl rfl (pl_ones _ rfl rfl) (by repeat (first | exact Upd.here | apply Upd.there)) (hqr _ _) (hpr _ _) ?_
                  refine RL.p rfl (RL.nil (NQ.block (NQ.seq (CW.ok [2, 5, 8, 9, 10] rfl (CW.rg (RL.p rfl (RL.bx rfl (wrapV_i64 (by omega) (by omega)) ?_)))))))
                  refine RL.p rfl (RL.nil ?_)
                  exact NQ.round (g := (i, (P, oa, ca, oz, cz, ZL), seen, os, cs)) (i + 1, (Q, qa, da, qz, dz, YL), seen ++ [nm], ob1, cap1) ⟨⟨⟨hlt', hQz⟩, hinv2, by rw [List.length_append]; show seen.length + 1 ≤ i + 1; omega⟩, hrun⟩ (by show n - (i + 1) < n - i; omega) (.cons rfl (.cons rfl (.cons rfl (.cons (k := 9) (by rw [List.length_append]; rfl) (.cons rfl .nil))))) (fun w h => by simp only [List.length_append, List.length_cons, List.length_nil, List.map_append, List.map_cons, List.map_nil, Nat.zero_add]; exact h.rea hJ2 (by repeat (first | exact Rea.nil | (apply Rea.cons; (solve | (repeat (first | exact Del.here | apply Del.there)))))))
                ·
                  refine RL.buildSlice [_] Tryz.runUnderlying62 Tryz.sizeOf9 Tryz.zeroValue9 rfl rfl (by decide) (by decide) rfl rfl rfl rfl rfl rfl ?_
                  intro b4
                  refine RL.fork ⟨?_, ?_, trivial⟩
                  ·
                    refine RL.loadW Tryz.isAgg43 Tryz.sizeOf43 rfl rfl rfl rfl (by repeat (first | exact List.Mem.head _ | apply List.Mem.tail)) (hqr _ _) ?_
                    refine RL.appendq el_62 rfl rfl rfl rfl rfl rfl rfl ?_
                    intro ob1 cap1 ho1
                    refine RL.storeW Tryz.sizeOf43 rfl rfl rfl rfl rfl rfl rfl (pl_ones _ rfl rfl) (by repeat (first | exact Upd.here | apply Upd.there)) (hqr _ _) (hpr _ _) ?_
                    refine RL.p rfl (RL.nil (NQ.block (NQ.seq (CW.ok [2, 5, 8, 9, 10] rfl (CW.rg (RL.p rfl (RL.bx rfl (wrapV_i64 (by omega) (by omega)) ?_)))))))
                    refine RL.p rfl (RL.nil ?_)
                    exact NQ.round (g := (i, (P, oa, ca, oz, cz, ZL), seen, os, cs)) (i + 1, (Q, qa, da, qz, dz, YL), seen ++ [nm], ob1, cap1) ⟨⟨⟨hlt', hQz⟩, hinv2, by rw [List.length_append]; show seen.length + 1 ≤ i + 1; omega⟩, hrun⟩ (by show n - (i + 1) < n - i; omega) (.cons rfl (.cons rfl (.cons rfl (.cons (k := 9) (by rw [List.length_append]; rfl) (.cons rfl .nil))))) (fun w h => by simp only [List.length_append, List.length_cons, List.length_nil, List.map_append, List.map_cons, List.map_nil, Nat.zero_add]; exact h.rea hJ2 (by repeat (first | exact Rea.nil | (apply Rea.cons; (solve | (repeat (first | exact Del.here | apply Del.there)))))))
                  ·
                    refine RL.appendq el_62 rfl rfl rfl rfl rfl rfl rfl ?_
                    intro ob1 cap1 ho1
                    refine RL.loadW Tryz.isAgg43 Tryz.sizeOf43 rfl rfl rfl rfl (by repeat (first | exact List.Mem.head _ | apply List.Mem.tail)) (hqr _ _) ?_
                    refine RL.storeW Tryz.sizeOf43 rfl rfl rfl rfl rfl rfl rfl (pl_ones _ rfl rfl) (by repeat (first | exact Upd.here | apply Upd.there)) (hqr _ _) (hpr _ _) ?_
                    refine RL.p rfl (RL.nil (NQ.block (NQ.seq (CW.ok [2, 5, 8, 9, 10] rfl (CW.rg (RL.p rfl (RL.bx rfl (wrapV_i64 (by omega) (by omega)) ?_)))))))
                    refine RL.p rfl (RL.nil ?_)
                    exact NQ.round (g := (i, (P, oa, ca, oz, cz, ZL), seen, os, cs)) (i + 1, (Q, qa, da, qz, dz, YL), seen ++ [nm], ob1, cap1) ⟨⟨⟨hlt', hQz⟩, hinv2, by rw [List.length_append]; show seen.length + 1 ≤ i + 1; omega⟩, hrun⟩ (by show n - (i + 1) < n - i; omega) (.cons rfl (.cons rfl (.cons rfl (.cons (k := 9) (by rw [List.length_append]; rfl) (.cons rfl .nil))))) (fun w h => by simp only [List.length_append, List.length_cons, List.length_nil, List.map_append, List.map_cons, List.map_nil, Nat.zero_add]; exact h.rea hJ2 (by repeat (first | exact Rea.nil | (apply Rea.cons; (solve | (repeat (first | exact Del.here | apply Del.there)))))))
        · have hin : n = i := by simp at hlt; omega
          subst hin
          rw [List.drop_eq_nil_of_le (by omega)] at hrun
          have hrun : R = .inr (P, seen) := hrun.symm
          subst hrun
          refine CW.exit (XQ.seq (XQ.seq (XQ.hit (NQ.seq (CW.ok [2, 8, 9] rfl (CW.seq (CW.region (ef := [0]) (bk := [0]) (RL.callq (rnames_any) Tryz.call51 rfl rfl rfl rfl rfl (.inr rfl) ?_))))))))
          rintro _ _ _ ⟨bn, rfl, rfl, rfl⟩
          refine RL.p rfl (RL.nil (NQ.seq (CW.seq (CW.seq (CW.freezeP (A := [own (some bn) 9 9 1 9 (nmL.map strV), own os cs 9 1 seen.length (seen.map strV)]) (B := [cel b2 (plC P (slO oa P.cf.L.length ca) (slO oz P.zs.length cz)) 43, own oa ca 108 48 P.cf.L.length (P.cf.L.flatMap Sr.cells), own oz cz 77 4 P.zs.length (ZL.flatMap znO), allI (ZL.map (znT 79)), cel b1 (plC zeroPl (.slice none 0 0) (.slice none 0 0)) 43]) (by repeat (first | exact Pick.nil | apply Pick.take | apply Pick.leave)) rfl ?_)))))
          refine CW.genI (fun J3 hJ => ?_)
          have nN : own (some bn) 9 9 1 9 (nmL.map strV) ∈ J3 := hJ _ (List.mem_cons_self ..)
          have nS : own os cs 9 1 seen.length (seen.map strV) ∈ J3 := hJ _ (List.mem_cons_of_mem _ (List.mem_cons_self ..))
          clear hJ mL hS
          refine CW.fact (p := os = none → seen.length = 0) (fun w hC e => by
            have h := hC.s.i _ nS
            subst e
            exact own_none h) (fun hos => ?_)
          refine CW.rg (RL.p rfl (RL.nil (NQ.seq (CW.block (CW.loop (γ := Nat) (fun i => i ≤ 9 ∧ ∀ j, j < i → ∀ x, nmL[j]? = some x → x ∈ seen) (fun i => [(2, .pointer (some ⟨b1, 0, none⟩)), (8, .pointer (some ⟨b2, 0, none⟩)), (9, slO os seen.length cs), (16, .slice (some ⟨bn, 0, none⟩) 9 9), (17, .int .i64 (i : Int))]) (fun _ => J3) (fun _ => [cel b2 (plC P (slO oa P.cf.L.length ca) (slO oz P.zs.length cz)) 43, own oa ca 108 48 P.cf.L.length (P.cf.L.flatMap Sr.cells), own oz cz 77 4 P.zs.length (ZL.flatMap znO), allI (ZL.map (znT 79)), cel b1 (plC zeroPl (.slice none 0 0) (.slice none 0 0)) 43]) (fun i => 9 - i) 0 ⟨Nat.zero_le _, fun j h => absurd h (Nat.not_lt_zero _)⟩ (.cons rfl (.cons rfl (.cons rfl (.cons rfl (.cons rfl .nil))))) (fun w h => h.rea (fun _ h => h) (by repeat (first | exact Rea.nil | (apply Rea.cons; (solve | (repeat (first | exact Del.here | apply Del.there))))))) ?_)))))
          rintro i ⟨hi9, hin⟩
          refine CW.seq (CW.seq (CW.rg (RL.p rfl (RL.p rfl (RL.lenS Tryz.runUnderlying62 rfl rfl rfl rfl (RL.p rfl (RL.nil (NQ.seq ?_))))))))
          refine CW.cond rfl (fun hi => ?_) (fun hi => ?_)
          · have hi' : i < 9 := by simp at hi; omega
            obtain ⟨x, hx⟩ : ∃ x, nmL[i]? = some x := ⟨_, List.getElem?_eq_getElem (show i < nmL.length from hi')⟩
            have fN : RdI J3 ⟨bn, 0 + i * 1, none⟩ (strV x) := ownRdI nN (by rw [List.getElem?_map, hx]; rfl)
            refine CW.skip (NQ.seq (CW.seq (CW.block (CW.seq (CW.rg (RL.p rfl (RL.nil (NQ.seq (CW.seq (CW.seq (CW.rg (RL.p rfl (RL.nil ?_)))))))))))))
            refine NQ.seq (CW.block (CW.loop (γ := Nat) (fun k => k ≤ seen.length) (fun k => [(2, .pointer (some ⟨b1, 0, none⟩)), (8, .pointer (some ⟨b2, 0, none⟩)), (9, slO os seen.length cs), (16, .slice (some ⟨bn, 0, none⟩) 9 9), (17, .int .i64 (i : Int)), (18, .bool (inB seen x k)), (19, .int .i64 (k : Int))]) (fun _ => J3) (fun _ => [cel b2 (plC P (slO oa P.cf.L.length ca) (slO oz P.zs.length cz)) 43, own oa ca 108 48 P.cf.L.length (P.cf.L.flatMap Sr.cells), own oz cz 77 4 P.zs.length (ZL.flatMap znO), allI (ZL.map (znT 79)), cel b1 (plC zeroPl (.slice none 0 0) (.slice none 0 0)) 43]) (fun k => seen.length - k) 0 (Nat.zero_le _) (.cons rfl (.cons rfl (.cons rfl (.cons rfl (.cons rfl (.cons rfl (.cons rfl .nil))))))) (fun w h => h.rea (fun _ h => h) (by repeat (first | exact Rea.nil | (apply Rea.cons; (solve | (repeat (first | exact Del.here | apply Del.there))))))) ?_))
            intro k hk
            refine CW.seq (CW.seq (CW.rg (RL.p rfl (RL.p rfl (RL.lenS Tryz.runUnderlying62 rfl rfl rfl rfl (RL.p rfl (RL.nil (NQ.seq ?_))))))))
            refine CW.cond rfl (fun hkl => ?_) (fun hkl => ?_)
            · have hkl' : k < seen.length := by simp at hkl; omega
              cases os with
              | none => exact absurd (hos rfl) (by omega)
              | some bs =>
              obtain ⟨s2, hs2⟩ : ∃ s2, seen[k]? = some s2 := ⟨_, List.getElem?_eq_getElem hkl'⟩
              have fS : RdI J3 ⟨bs, 0 + k * 1, none⟩ (strV s2) := ownRdI nS (by rw [List.getElem?_map, hs2]; rfl)
              refine CW.skip (NQ.seq (CW.seq (CW.block (CW.regionD (Sq.of [0, 1, 2, 3, 4, 5, 6, 7, 8, 9, 10, 11, 12]) [] [] [0, 1, 2, 3, 4, 5, 6, 7, 8, 9, 10, 11, 12] mixed (by kernel_rfl) ?_))))
              refine RL.p rfl (RL.p rfl ?_)
              apply RL.orB (d := 126) (dp := 136) (l' := (Sq.of [12])) rfl (sK [2, 8, 9, 16, 17, 18, 19] rfl)
              ·
                intro hb2 K2
                refine RL.p rfl (RL.p rfl (RL.idxAt (j := k) Tryz.runUnderlying62 Tryz.sizeOf9 rfl rfl rfl rfl rfl rfl hkl' (RL.loadTq Tryz.isAgg9 rfl rfl rfl rfl ?_)))
                refine RL.p rfl (RL.p rfl (RL.idxAt (j := i) Tryz.runUnderlying62 Tryz.sizeOf9 rfl rfl rfl rfl rfl rfl hi' (RL.loadTq Tryz.isAgg9 rfl rfl rfl rfl ?_)))
                refine RL.cmp rfl rfl rfl rfl rfl (fun w => eql_txt s2 x w) ?_
                refine RL.p rfl ?_
                exact K2 _ (.cons rfl (sK [2, 8, 9, 16, 17, 18, 19] rfl))
              ·
                intro hb2 K2
                refine RL.p rfl (RL.p rfl (RL.p rfl (RL.p rfl (RL.p rfl (RL.p rfl (RL.p rfl (RL.p rfl (RL.p rfl (RL.p rfl ?_)))))))))
                exact K2 _ (.cons rfl (sK [2, 8, 9, 16, 17, 18, 19] rfl))
              refine RL.p rfl (RL.nil (NQ.block (NQ.seq (CW.rg (RL.p rfl (RL.bx rfl (wrapV_i64 (by omega) (by omega)) ?_))))))
              refine RL.p rfl (RL.nil ?_)
              exact NQ.round (g := k) (k + 1) hkl' (by show seen.length - (k + 1) < seen.length - k; omega) (.cons rfl (.cons rfl (.cons rfl (.cons rfl (.cons rfl (.cons (k := 18) (by rw [in_step hs2]; rfl) (.cons rfl .nil))))))) (fun w h => h.rea (fun _ h => h) (by repeat (first | exact Rea.nil | (apply Rea.cons; (solve | (repeat (first | exact Del.here | apply Del.there)))))))
            · have hkn : k = seen.length := by simp at hkl; omega
              subst hkn
              rw [in_all]
              refine CW.exit (XQ.seq (XQ.seq (XQ.hit (NQ.seq (CW.seq (CW.rg (RL.p rfl (RL.p rfl (RL.nil (NQ.seq (CW.ok [2, 8, 9, 16, 17, 138] rfl ?_)))))))))))
              refine CW.cond rfl (fun hno => ?_) (fun hno => ?_)
              · have hno' : x ∉ seen := by simpa using hno
                refine CW.seq (CW.region (ef := [1]) (bk := [1]) (RL.buildS _ Tryz.zeroValue43 pl_43 rfl rfl rfl rfl rfl (RL.storeWq Tryz.sizeOf43 rfl rfl rfl rfl rfl rfl rfl ?_)))
                refine RL.p rfl (RL.p rfl (RL.nil (NQ.seq (CW.ret (RQ.block (RQ.seq (RQ.seq (RQ.block (RQ.seq ?_)))))))))
                dsimp only
                rw [if_neg (all_not hx hno')]
                refine RQ.allNil (RQ.ownNone (e := 77) 4 (RQ.ownNone (e := 108) 48 ?_))
                exact RQ.post (resW3 rfl rfl rfl rfl Tryz.isAgg43 Tryz.sizeOf43 (by repeat (first | exact List.Mem.head _ | apply List.Mem.tail)) rfl) (.keep (.keep (.keep (Split.none _)))) (RPaR.no (k := 0) rfl)
              · have hno' : x ∈ seen := by simpa using hno
                refine CW.skip (NQ.block (NQ.seq (CW.rg (RL.p rfl (RL.bx rfl (wrapV_i64 (by omega) (by omega)) ?_)))))
                refine RL.p rfl (RL.nil ?_)
                exact NQ.round (g := i) (i + 1) ⟨hi', fun j hj y hy => by
                  rcases Nat.lt_succ_iff_lt_or_eq.1 hj with h | rfl
                  · exact hin j h y hy
                  · rw [hx] at hy; rw [← Option.some.inj hy]; exact hno'⟩ (by show 9 - (i + 1) < 9 - i; omega) (.cons rfl (.cons rfl (.cons rfl (.cons rfl (.cons rfl .nil))))) (fun w h => h.rea (fun _ h => h) (by repeat (first | exact Rea.nil | (apply Rea.cons; (solve | (repeat (first | exact Del.here | apply Del.there)))))))
          · have hall : allT seen = true := all_yes (fun j hj => hin j (by simp at hi; omega))
            have hfit := hinv.fit (ZL := ZL) (by omega) hz
            refine CW.exit (XQ.seq (XQ.seq (XQ.hit (NQ.seq (CW.ok [2, 8] rfl (CW.seq (CW.seq (CW.rg (RL.loadW Tryz.isAgg43 Tryz.sizeOf43 rfl rfl rfl rfl (by repeat (first | exact List.Mem.head _ | apply List.Mem.tail)) (hpr _ _) ?_)))))))))
            refine RL.callv (rgcheck_any P oa oz ca cz ZL hfit) Tryz.call11 rfl rfl rfl rfl (Lend.own (by repeat (first | exact List.Mem.head _ | apply List.Mem.tail)) (Lend.own (by repeat (first | exact List.Mem.head _ | apply List.Mem.tail)) (lend_zT (.inl (by repeat (first | exact List.Mem.head _ | apply List.Mem.tail))) _ (fun _ h => h)))) ?_
            refine RL.p rfl (RL.nil (NQ.seq (CW.seq (CW.rg (RL.p rfl (RL.p rfl (RL.nil (NQ.seq ?_))))))))
            refine CW.cond rfl (fun he => ?_) (fun he => ?_)
            · have he' : ¬ P.ok = true := fun h => by rw [Pl.err, if_pos h] at he; simp at he
              refine CW.seq (CW.region (ef := [2]) (bk := [2]) (RL.buildS _ Tryz.zeroValue43 pl_43 rfl rfl rfl rfl rfl (RL.p rfl (RL.storeWq Tryz.sizeOf43 rfl rfl rfl rfl rfl rfl rfl ?_))))
              refine RL.p rfl (RL.p rfl (RL.nil (NQ.seq (CW.ok [2, 3, 4, 8] rfl (CW.ret (RQ.seq ?_))))))
              dsimp only
              rw [if_pos hall, if_neg he']
              refine RQ.allNil (RQ.ownNone (e := 77) 4 (RQ.ownNone (e := 108) 48 ?_))
              exact RQ.post (resW3 rfl rfl rfl rfl Tryz.isAgg43 Tryz.sizeOf43 (by repeat (first | exact List.Mem.head _ | apply List.Mem.tail)) rfl) (.keep (.keep (.keep (Split.none _)))) (RPaR.no (k := 0) (by rw [Pl.err, if_neg he']; rfl))
            · have he' : P.ok = true := by
                cases h : P.ok with
                | true => rfl
                | false => rw [Pl.err, h] at he; simp at he
              refine CW.skip (NQ.seq (CW.seq (CW.region (ef := [1]) (bk := [1]) (RL.loadW Tryz.isAgg43 Tryz.sizeOf43 rfl rfl rfl rfl (by repeat (first | exact List.Mem.head _ | apply List.Mem.tail)) (hpr _ _) ?_))))
              refine RL.storeW Tryz.sizeOf43 rfl rfl rfl rfl rfl rfl rfl (pl_ones _ rfl rfl) (by repeat (first | exact Upd.here | apply Upd.there)) (hpr _ _) rfl ?_
              refine RL.p rfl (RL.p rfl (RL.nil (NQ.seq (CW.ok [2, 3, 4] rfl (CW.ret (RQ.rea (H' := [cel b1 (plC P (slO oa P.cf.L.length ca) (slO oz P.zs.length cz)) 43, own oa ca 108 48 P.cf.L.length (P.cf.L.flatMap Sr.cells), own oz cz 77 4 P.zs.length (ZL.flatMap znO), allI (ZL.map (znT 79))]) (fun _ h => h) (by repeat (first | exact Rea.nil | (apply Rea.cons; (solve | (repeat (first | exact Del.here | apply Del.there)))))) ?_))))))
              refine RQ.post (resW3 rfl rfl rfl rfl Tryz.isAgg43 Tryz.sizeOf43 (by repeat (first | exact List.Mem.head _ | apply List.Mem.tail)) (hpr _ _)) (.drop (.keep (.keep (.keep .nil)))) ?_
              dsimp only
              rw [if_pos hall, if_pos he']
              exact ⟨oa, ca, oz, cz, ZL, hz, rfl, rfl, rfl⟩
end Go.Proofs.YthndhipjfdgdfaaGreatDoor
