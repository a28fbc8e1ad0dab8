import Derived.Test.YtpaemkemknfmfaaGreatDoorCA
import Derived.Test.YtpaemkemknfmfaaGreatDoorBase0
import Derived.Test.YtpaemkemknfmfaaGreatDoorPD
set_option linter.unusedVariables false
set_option linter.unusedSimpArgs false
namespace Go.Proofs.YtpaemkemknfmfaaGreatDoor
open Go.PK
/-! ### Keys of intervals, the commitment first -/
def RevI (l : List (List B8)) (n i : Nat) (L : List (List B8)) : Prop := L.length = n ∧ (∀ x ∈ L, x.length = 32) ∧ ∀ k < n, L[k]? = if k < i ∨ n - i ≤ k then l[n - 1 - k]? else l[k]?
theorem RevI.step {l L : List (List B8)} {n i : Nat} {x y : List B8} (h : RevI l n i L) (hi : i < n - 1 - i) (hx : L[i]? = some x) (hy : L[n - 1 - i]? = some y) : RevI l n (i + 1) ((L.set i y).set (n - 1 - i) x) := by
  obtain ⟨h1, h2, h3⟩ := h
  have ex := h3 i (by omega)
  have ey := h3 (n - 1 - i) (by omega)
  rw [if_neg (by omega), hx] at ex
  rw [if_neg (by omega), hy] at ey
  refine ⟨by simp [h1], fun z hz => ?_, fun k hk => ?_⟩
  · rcases List.mem_or_eq_of_mem_set hz with hz | rfl
    · rcases List.mem_or_eq_of_mem_set hz with hz | rfl
      · exact h2 z hz
      · exact h2 _ (List.mem_of_getElem? hy)
    · exact h2 _ (List.mem_of_getElem? hx)
  · by_cases h4 : k = n - 1 - i
    · subst h4
      rw [List.getElem?_set_self (by simp [h1]; omega), if_pos (by omega), show n - 1 - (n - 1 - i) = i by omega, ex]
    · rw [List.getElem?_set_ne (by omega)]
      by_cases h5 : k = i
      · subst h5
        rw [List.getElem?_set_self (by omega), if_pos (by omega), ey]
      · rw [List.getElem?_set_ne (by omega), h3 k hk]
        by_cases h6 : k < i ∨ n - i ≤ k
        · rw [if_pos h6, if_pos (by omega)]
        · rw [if_neg h6, if_neg (by omega)]
theorem RevI.done {l L : List (List B8)} {n i : Nat} (hl : l.length = n) (h : RevI l n i L) (hi : n ≤ 2 * i + 1) : L = l.reverse := by
  obtain ⟨h1, h2, h3⟩ := h
  apply List.ext_getElem?
  intro k
  by_cases hk : k < n
  · rw [h3 k hk, List.getElem?_reverse (by omega), hl]
    split
    · rfl
    · rw [show n - 1 - k = k by omega]
  · rw [List.getElem?_eq_none (by omega), List.getElem?_eq_none (by simp; omega)]
theorem flatK_set {L : List (List B8)} (hL : ∀ x ∈ L, x.length = 32) {y : List B8} (hy : y.length = 32) {q : Nat} (hq : q < L.length) : spl (flatK L) (q * 32) (bytes y) = flatK (L.set q y) :=
  spl_flat (f := bytes) y (fun a ha => by rw [List.length_map]; exact hL a ha) (by rw [List.length_map]; exact hy) hq
theorem flatK_len : ∀ {L : List (List B8)}, (∀ x ∈ L, x.length = 32) → (flatK L).length = L.length * 32
  | [], _ => rfl
  | a :: L, h => by
    have ih := flatK_len (L := L) (fun x hx => h x (by simp [hx]))
    simp only [flatK] at ih
    rw [flatK, List.flatMap_cons, List.length_append, ih, List.length_map, h a (by simp), List.length_cons]; omega
theorem rev_keys (b c n : Nat) (l : List (List B8)) (hn : l.length = n) (hl : ∀ x ∈ l, x.length = 32) (hb : n ≤ 1000000) : Spc Tryz.prog 113 #[.slice (some ⟨b, 0, none⟩) n c] [] [own (some b) c 38 32 n (flatK l)] (fun v I' H' => v = .tuple #[] ∧ I' = [] ∧ H' = [own (some b) c 38 32 n (flatK l.reverse)]) := by
  refine Spc.enter Tryz.func113 rfl rfl rfl (fun w0 hw0 => ?_)
  refine CW.seq (CW.rg (RL.p rfl (RL.lenS Tryz.runUnderlying136 rfl rfl rfl rfl (RL.bx rfl (wrapV_i64 (by omega) (by omega)) ?_))))
  refine RL.p rfl (RL.p rfl (RL.nil (NQ.seq (CW.block (CW.loop (γ := Nat × List (List B8)) (fun g => 2 * g.1 ≤ n ∧ RevI l n g.1 g.2) (fun g => [(0, .slice (some ⟨b, 0, none⟩) n c), (2, .int .i64 (g.1 : Int)), (3, .int .i64 ((n : Int) - 1 - g.1))]) (fun _ => []) (fun g => [own (some b) c 38 32 n (flatK g.2)]) (fun g => n - g.1) (0, l) ⟨by omega, hn, hl, fun k hk => by rw [if_neg (by omega)]⟩ (.cons rfl (.cons rfl (.cons (by simp; rfl) .nil))) (fun w h => h) ?_)))))
  rintro ⟨i, L⟩ ⟨hi, hL⟩
  dsimp only at hi hL ⊢
  have hLl := hL.1
  have hL2 := hL.2.1
  refine CW.seq (CW.seq (CW.rg (RL.p rfl (RL.p rfl (RL.p rfl (RL.nil (NQ.seq ?_)))))))
  refine CW.cond rfl (fun hlt => ?_) (fun hlt => ?_)
  ·
    have hlt : i < n - 1 - i := by simp at hlt; omega
    have hx := List.getElem?_eq_getElem (show i < L.length by omega)
    have hy := List.getElem?_eq_getElem (show n - 1 - i < L.length by omega)
    generalize L[i] = x at hx
    generalize L[n - 1 - i] = y at hy
    have hxl := hL2 x (List.mem_of_getElem? hx)
    have hyl := hL2 y (List.mem_of_getElem? hy)
    have hst := hL.step hlt hx hy
    have hs1 : ∀ z ∈ L.set i y, z.length = 32 := fun z hz => by
      rcases List.mem_or_eq_of_mem_set hz with hz | rfl
      · exact hL2 z hz
      · exact hyl
    have hs2 : (L.set i y).length = n := by rw [List.length_set, hLl]
    refine CW.skip (NQ.seq (CW.seq (CW.block (CW.regionD (Sq.of [0, 1, 2, 3, 4, 5, 6, 7, 8, 9, 10, 11, 12, 13, 14, 15]) [13, 15] [13, 15] [0, 1, 2, 3, 4, 5, 6, 8, 9, 10, 12, 14] mixed (by kernel_rfl) ?_))))
    refine RL.p rfl (RL.p rfl (RL.p rfl (RL.p rfl (RL.p rfl (RL.p rfl (RL.cast (d := 19) (v' := .int .i64 ((n - 1 - i : Nat) : Int)) rfl (by congr 1; omega) ?_))))))
    refine RL.idxAt (j := n - 1 - i) Tryz.runUnderlying136 Tryz.sizeOf38 rfl rfl rfl rfl rfl rfl (by omega) ?_
    refine RL.loadN (vs := bytes y) Tryz.isAgg38 (by rw [List.length_map, hyl]; exact Tryz.sizeOf38) rfl rfl rfl rfl (own_rds (f := bytes) (by repeat (first | exact List.Mem.head _ | apply List.Mem.tail)) hy (fun z hz => by rw [List.length_map]; exact hL2 z hz)) ?_
    refine RL.p rfl (RL.p rfl (RL.idxAt (j := i) Tryz.runUnderlying136 Tryz.sizeOf38 rfl rfl rfl rfl rfl rfl (by omega) ?_))
    refine RL.loadN (vs := bytes x) Tryz.isAgg38 (by rw [List.length_map, hxl]; exact Tryz.sizeOf38) rfl rfl rfl rfl (own_rds (f := bytes) (by repeat (first | exact List.Mem.head _ | apply List.Mem.tail)) hx (fun z hz => by rw [List.length_map]; exact hL2 z hz)) ?_
    refine RL.idxAt (j := i) Tryz.runUnderlying136 Tryz.sizeOf38 rfl rfl rfl rfl rfl rfl (by omega) ?_
    refine RL.storeO (off := i * 32) (flatK_set (L := L) hL2 hyl (by omega)) (by rw [List.length_map, hyl]; exact Tryz.sizeOf38) rfl rfl rfl rfl rfl (by rw [add_none]) rfl rfl (ones_map one8 _) (by rw [flatK_len hL2, List.length_map]; omega) (by repeat (first | exact Upd.here | apply Upd.there)) ?_
    refine RL.cast (d := 17) (v' := .int .i64 ((n - 1 - i : Nat) : Int)) rfl (by congr 1; omega) ?_
    refine RL.idxAt (j := n - 1 - i) Tryz.runUnderlying136 Tryz.sizeOf38 rfl rfl rfl rfl rfl rfl (by omega) ?_
    refine RL.storeO (off := (n - 1 - i) * 32) (flatK_set (L := L.set i y) hs1 hxl (by omega)) (by rw [List.length_map, hxl]; exact Tryz.sizeOf38) rfl rfl rfl rfl rfl (by rw [add_none]) rfl rfl (ones_map one8 _) (by rw [flatK_len hs1, List.length_map]; omega) (by repeat (first | exact Upd.here | apply Upd.there)) ?_
    refine RL.nil (NQ.block (NQ.seq (CW.ok [0, 2, 3] rfl (CW.rg (RL.p rfl (RL.bx rfl (wrapV_i64 (by omega) (by omega)) ?_))))))
    refine RL.p rfl (RL.bx rfl (wrapV_i64 (by omega) (by omega)) ?_)
    refine RL.p rfl (RL.p rfl (RL.nil ?_))
    refine NQ.round (g := (i, L)) (i + 1, (L.set i y).set (n - 1 - i) x) ⟨by omega, hst⟩ (by show n - (i + 1) < n - i; omega) (.cons rfl (.cons rfl (.cons (by show some (Value.int .i64 ((n : Int) - 1 - i - 1)) = some (Value.int .i64 ((n : Int) - 1 - ((i + 1 : Nat) : Int))); congr 2; omega) .nil))) (fun _ h => h)
  ·
    have hin : n ≤ 2 * i + 1 := by simp at hlt; omega
    have := hL.done hn hin
    subst this
    refine CW.exit (XQ.seq (XQ.seq (XQ.hit ?_)))
    exact RQ.post (res0 rfl) (.keep .nil) ⟨rfl, rfl, rfl⟩
def okN (n : Int) : Prop := 1 ≤ n ∧ n ≤ 512
def KeysR (k : List B8) (n : Nat) : Value → List It → List It → Prop := fun v I' H' => ∃ b cap, v = .tuple #[slO (some b) (n + 1) cap, .int .i64 0] ∧ I' = [] ∧ H' = [own (some b) cap 38 32 (n + 1) (flatK (chainL k (n + 1)).reverse)]
theorem ekeys_ok (k : List B8) (hk : k.length = 32) (n : Nat) (hn : okN n) : Spc Tryz.prog 70 #[.agg (bytes k).toArray, .int .i64 (n : Int)] [] [] (KeysR k n) := by
  unfold okN at hn
  refine Spc.enter Tryz.func70 rfl rfl rfl (fun w0 hw0 => ?_)
  refine CW.seq (CW.region (ef := [0]) (bk := []) (RL.box rfl rfl rfl rfl rfl rfl ?_))
  intro b1
  refine RL.p rfl (RL.p rfl (RL.nil (NQ.seq (CW.seq (CW.seq (CW.rg (RL.p rfl (RL.p rfl (RL.nil (NQ.seq (CW.condF rfl ((by simp; omega)) ?_)))))))))))
  refine CW.skip (NQ.seq (CW.seq (CW.region (ef := [2]) (bk := []) (RL.loadW Tryz.isAgg38 Tryz.sizeOf38 rfl rfl rfl rfl (by repeat (first | exact List.Mem.head _ | apply List.Mem.tail)) (by first | rfl | assumption | (simp only [List.length_map]; assumption) | (simp only [List.length_map, List.length_replicate, hk]; done) | (simp; done)) ?_))))
  refine RL.p rfl (RL.callq (all_ok k hk n (by omega)) Tryz.call112 rfl rfl rfl rfl rfl (.inl rfl) ?_)
  rintro _ _ _ ⟨b, cap, rfl, rfl, rfl⟩
  refine RL.p rfl (RL.p rfl (RL.p rfl (RL.p rfl (RL.p rfl (RL.nil (NQ.seq (CW.ok [6, 7] rfl (CW.seq (CW.region (ef := [1]) (bk := [1]) (RL.p rfl (RL.callq (rev_keys b cap _ (chainL k (n + 1)) (chainL_len _ _) (chainL_all hk _) (by omega)) Tryz.call113 rfl rfl rfl rfl rfl (.inr rfl) ?_)))))))))))
  rintro _ _ _ ⟨rfl, rfl, rfl⟩
  refine RL.nil (NQ.seq (CW.seq (CW.rg (RL.p rfl (RL.p rfl (RL.p rfl (RL.p rfl (RL.nil (NQ.seq (CW.ok [4, 5] rfl (CW.ret ?_)))))))))))
  exact RQ.post (res2 rfl rfl rfl) (.keep (.drop .nil)) ⟨b, cap, rfl, rfl, rfl⟩
end Go.Proofs.YtpaemkemknfmfaaGreatDoor
