import Derived.Test.YthndhipjfdgdfaaGreatDoorP6b
import Derived.Test.YthndhipjfdgdfaaGreatDoorOneT
set_option linter.unusedVariables false
set_option linter.unusedSimpArgs false
namespace Go.Proofs.YthndhipjfdgdfaaGreatDoor
open Go.PK
/-! ### GramBack: what was printed is read (plain Lean) -/
/-- No blank, no end of a line. -/
def Cln (s : Tx) : Prop := (32#8 ∉ s) ∧ (10#8 ∉ s)
theorem cln_of {s : Tx} (h : ∀ c ∈ s, 33 ≤ c.toNat) : Cln s := ⟨fun hm => by have := h _ hm; revert this; decide, fun hm => by have := h _ hm; revert this; decide⟩
theorem dgs_ge : ∀ (f n : Nat) (acc : Tx), (∀ c ∈ acc, 33 ≤ c.toNat) → ∀ c ∈ dgs f n acc, 33 ≤ c.toNat
  | 0, n, acc, h => h
  | f + 1, n, acc, h => by
    cases hn : Nat.beq n 0 with
    | true => rw [dgs, hn]; exact h
    | false =>
      rw [dgs, hn]
      refine dgs_ge f (n / 10) _ (fun c hc => ?_)
      rcases List.mem_cons.1 hc with rfl | hc
      · rw [dgc_toNat]; omega
      · exact h c hc
theorem decT_ge (n : Nat) : ∀ c ∈ decT n, 33 ≤ c.toNat := by
  rw [decT]
  cases hn : Nat.beq n 0 with
  | true => intro c hc; rw [List.mem_singleton.1 hc]; decide
  | false => exact dgs_ge 20 n [] (fun c hc => by cases hc)
theorem itoT_ge (v : Int) : ∀ c ∈ itoT v, 33 ≤ c.toNat := by
  rw [itoT]
  split
  · intro c hc
    rcases List.mem_cons.1 hc with rfl | hc
    · decide
    · exact decT_ge _ c hc
  · exact decT_ge _
theorem hexc_ge {n : Nat} (h : n < 16) : 33 ≤ (hexc n).toNat := by
  rw [hexc, BitVec.toNat_ofNat]
  split <;> omega
theorem hexT_ge (k : List B8) : ∀ c ∈ hexT k, 33 ≤ c.toNat := fun c hc => by
  obtain ⟨b, -, hb⟩ := List.mem_flatMap.1 hc
  have := b.isLt
  simp only [List.mem_cons, List.not_mem_nil, or_false] at hb
  rcases hb with rfl | rfl
  · exact hexc_ge (by omega)
  · exact hexc_ge (by omega)
theorem hexd_hexc {n : Nat} (h : n < 16) : hexd (hexc n) = some n := by
  have e : (hexc n).toNat = if n < 10 then 48 + n else 87 + n := by
    rw [hexc, BitVec.toNat_ofNat]; split <;> omega
  rw [hexd, e]
  by_cases h10 : n < 10
  · rw [if_pos h10, if_pos (by omega)]; congr 1; omega
  · rw [if_neg h10, if_neg (by omega), if_pos (by omega)]; congr 1; omega
theorem hexT_at : ∀ (k : List B8) (j : Nat) (b : B8), k[j]? = some b → (hexT k)[2 * j]? = some (hexc (b.toNat / 16)) ∧ (hexT k)[2 * j + 1]? = some (hexc (b.toNat % 16))
  | [], j, b, h => by simp at h
  | a :: r, 0, b, h => by
    have : a = b := by simpa using h
    subst this; exact ⟨rfl, rfl⟩
  | a :: r, j + 1, b, h => by
    have ih := hexT_at r j b (by simpa using h)
    have e : hexT (a :: r) = hexc (a.toNat / 16) :: hexc (a.toNat % 16) :: hexT r := rfl
    rw [e, show 2 * (j + 1) = 2 * j + 1 + 1 by omega, show 2 * j + 1 + 1 + 1 = (2 * j + 1) + 1 + 1 by omega]
    exact ⟨ih.1, ih.2⟩
theorem keyT_hexT {k : List B8} (h : k.length = 32) : keyT (hexT k) = some k := by
  have hl : (hexT k).length = 64 := by rw [hexT_len, h]
  have ho : hexOk (hexT k) = true := List.all_eq_true.2 fun c hc => by
    obtain ⟨b, -, hb⟩ := List.mem_flatMap.1 hc
    have := b.isLt
    simp only [List.mem_cons, List.not_mem_nil, or_false] at hb
    rcases hb with rfl | rfl
    · rw [hexd_hexc (by omega)]; rfl
    · rw [hexd_hexc (by omega)]; rfl
  rw [keyT, if_pos ⟨hl, ho⟩]
  congr 1
  refine List.ext_getElem (by simp [keyB, h]) (fun j h1 h2 => ?_)
  have hb := List.getElem?_eq_getElem h2
  obtain ⟨e1, e2⟩ := hexT_at k j _ hb
  have hlt := k[j].isLt
  simp only [keyB, List.getElem_map, List.getElem_range, List.getD_eq_getElem?_getD, e1, e2, Option.getD_some, hexv, hexd_hexc (show k[j].toNat / 16 < 16 by omega), hexd_hexc (show k[j].toNat % 16 < 16 by omega)]
  refine BitVec.eq_of_toNat_eq ?_
  rw [BitVec.toNat_ofNat]; omega
theorem nums_ito : ∀ l : List Int, (∀ v ∈ l, i64 v) → numsL (l.map itoT) = some l
  | [], _ => rfl
  | v :: r, h => by
    have hv := h v (List.mem_cons_self ..)
    rw [List.map_cons, numsL, numT_itoT hv.1 hv.2, nums_ito r (fun x hx => h x (List.mem_cons_of_mem _ hx))]
/-- Some of a plan. -/
def mixP (P : Pl) (f : Tx → Bool) (i j : Nat) : Pl :=
  ⟨⟨bif f nGravity then P.cf.g0 else 0, bif f nGravity then P.cf.g1 else 0, bif f nGravity then P.cf.g2 else 0, bif f nDrift then P.cf.dr else 0,
    ⟨bif f nSlot then P.cf.sc.st else 0, bif f nSlot then P.cf.sc.ln else 0, bif f nSlot then P.cf.sc.lg else 0, bif f nSlot then P.cf.sc.of else 0⟩,
    bif f nCommit then P.cf.cm else List.replicate 32 0, bif f nLock then P.cf.mo else 0, bif f nLock then P.cf.ti else 0, bif f nGrace then P.cf.gr else 0, bif f nStride then P.cf.sd else 0, P.cf.L.take i⟩,
    P.zs.take j, bif f nClock then P.de else 0, bif f nClock then P.ra else 0, bif f nClock then P.mo else 0, bif f nTrace then P.sz else 0⟩
def addF (nm : Tx) (f : Tx → Bool) : Tx → Bool := fun n => (n == nm) || f n
theorem mix_0 (P : Pl) : zeroPl = mixP P (fun _ => false) 0 0 := rfl
theorem mix_all {P : Pl} {f : Tx → Bool} (h : ∀ n ∈ nmL, f n = true) : mixP P f P.cf.L.length P.zs.length = P := by
  unfold mixP
  rw [h nGravity (by decide), h nDrift (by decide), h nSlot (by decide), h nCommit (by decide), h nLock (by decide), h nGrace (by decide), h nStride (by decide), h nClock (by decide), h nTrace (by decide), List.take_length, List.take_length]
  rfl
end Go.Proofs.YthndhipjfdgdfaaGreatDoor

namespace Go.Proofs.YthndhipjfdgdfaaGreatDoor
open Go.PK
/-! ### GramBack: line by line (plain Lean) -/
abbrev lnJ (w : List Tx) : Tx := jnL 32#8 w
theorem runT_app : ∀ (A B : List Tx) (k : Nat) (st st' : PS), runT A k st = .inr st' → runT (A ++ B) k st = runT B (k + A.length) st'
  | [], B, k, st, st', h => by rw [Sum.inr.inj h]; rfl
  | l :: r, B, k, st, st', h => by
    rw [List.cons_append, runT_cons, List.length_cons, show k + (r.length + 1) = k + 1 + r.length by omega]
    rw [runT_cons] at h
    split at h
    · next hs =>
      rw [if_pos hs]
      split at h
      · cases h
      · next st2 h2 => exact runT_app r B _ _ _ h
    · next hs => rw [if_neg hs]; exact runT_app r B _ _ _ h
theorem runT_says {l : Tx} {r : List Tx} {k : Nat} {st st' : PS} (hs : saysT l = true) (h : stepT st l = some st') : runT (l :: r) k st = runT r (k + 1) st' := by
  rw [runT_cons, if_pos hs, h]
theorem runT_skip {l : Tx} {r : List Tx} {k : Nat} {st : PS} (hs : saysT l = false) : runT (l :: r) k st = runT r (k + 1) st := by
  rw [runT_cons, if_neg (by rw [hs]; exact Bool.false_ne_true)]
theorem step_line {P q : Pl} {S : List Tx} {nm : Tx} {a : List Tx} (hc : ∀ x ∈ nm :: a, Cln x) (hl : lineT P nm a = some q) (hn : nm ≠ nSource → nm ≠ nZone → nm ∉ S) : stepT (P, S) (lnJ (nm :: a)) = some (q, S ++ [nm]) := by
  rw [stepT_cons (nm := nm) (w := a) (splL_jn _ (by simp) (fun x hx => (hc x hx).1)), hl]
  exact if_neg (fun h => hn h.1 h.2.1 h.2.2)
theorem line_nm {P : Pl} {nm : Tx} {a : List Tx} (h : nm ∈ nmL) : lineT P nm a = oneT P nm a := by
  rw [lineT, if_neg (fun e => by rw [e] at h; revert h; decide), if_neg (fun e => by rw [e] at h; revert h; decide)]
theorem cln_ito (v : Int) : Cln (itoT v) := cln_of (itoT_ge v)
/-- Each of the nine lines. -/
theorem nine_one {P : Pl} (hA : P.All) (hc : P.cf.cm.length = 32) (f : Tx → Bool) (i j : Nat) {w : List Tx} (hw : w ∈ nineP P) :
    ∃ nm a, w = nm :: a ∧ nm ∈ nmL ∧ (∀ x ∈ w, Cln x) ∧ saysT (lnJ w) = true ∧ oneT (mixP P f i j) nm a = some (mixP P (addF nm f) i j) := by
  have hb := fun v hv => hA.n v hv
  have cl := fun (l : List Int) (n : Tx) (hn : Cln n) (x : Tx) (hx : x ∈ n :: l.map itoT) => (show Cln x by
    rcases List.mem_cons.1 hx with rfl | hx
    · exact hn
    · obtain ⟨v, -, rfl⟩ := List.mem_map.1 hx; exact cln_ito v)
  simp only [nineP, List.mem_cons, List.not_mem_nil, or_false] at hw
  rcases hw with rfl | rfl | rfl | rfl | rfl | rfl | rfl | rfl | rfl
  · refine ⟨nGravity, _, rfl, by decide, cl [P.cf.g0, P.cf.g1, P.cf.g2] _ (cln_of (by decide)), rfl, ?_⟩
    rw [one_grav, show [itoT P.cf.g0, itoT P.cf.g1, itoT P.cf.g2] = [P.cf.g0, P.cf.g1, P.cf.g2].map itoT from rfl, nums_ito _ (fun v hv => hb v (by simp [Pl.nums] at hv ⊢; rcases hv with h | h | h <;> simp [h]))]
    kernel_rfl
  · refine ⟨nDrift, _, rfl, by decide, cl [P.cf.dr] _ (cln_of (by decide)), rfl, ?_⟩
    rw [one_drift, show [itoT P.cf.dr] = [P.cf.dr].map itoT from rfl, nums_ito _ (fun v hv => hb v (by simp [Pl.nums] at hv ⊢; simp [hv]))]
    kernel_rfl
  · refine ⟨nSlot, _, rfl, by decide, cl [P.cf.sc.st, P.cf.sc.ln, P.cf.sc.lg, P.cf.sc.of] _ (cln_of (by decide)), rfl, ?_⟩
    rw [one_slot, show [itoT P.cf.sc.st, itoT P.cf.sc.ln, itoT P.cf.sc.lg, itoT P.cf.sc.of] = [P.cf.sc.st, P.cf.sc.ln, P.cf.sc.lg, P.cf.sc.of].map itoT from rfl, nums_ito _ (fun v hv => hb v (by simp [Pl.nums] at hv ⊢; rcases hv with h | h | h | h <;> simp [h]))]
    kernel_rfl
  · refine ⟨nCommit, _, rfl, by decide, fun x hx => ?_, rfl, ?_⟩
    · simp only [List.mem_cons, List.not_mem_nil, or_false] at hx
      rcases hx with rfl | rfl
      · exact cln_of (by decide)
      · exact cln_of (hexT_ge _)
    · rw [one_commitS (keyT_hexT hc)]
      kernel_rfl
  · refine ⟨nLock, _, rfl, by decide, cl [P.cf.mo, P.cf.ti] _ (cln_of (by decide)), rfl, ?_⟩
    rw [one_lock, show [itoT P.cf.mo, itoT P.cf.ti] = [P.cf.mo, P.cf.ti].map itoT from rfl, nums_ito _ (fun v hv => hb v (by simp [Pl.nums] at hv ⊢; rcases hv with h | h <;> simp [h]))]
    kernel_rfl
  · refine ⟨nGrace, _, rfl, by decide, cl [P.cf.gr] _ (cln_of (by decide)), rfl, ?_⟩
    rw [one_grace, show [itoT P.cf.gr] = [P.cf.gr].map itoT from rfl, nums_ito _ (fun v hv => hb v (by simp [Pl.nums] at hv ⊢; simp [hv]))]
    kernel_rfl
  · refine ⟨nStride, _, rfl, by decide, fun x hx => ?_, rfl, ?_⟩
    · simp only [List.mem_cons, List.not_mem_nil, or_false] at hx
      rcases hx with rfl | rfl
      · exact cln_of (by decide)
      · exact cln_of (decT_ge _)
    · have h := hA.sd
      refine (one_strideS (bareT_decT (n := P.cf.sd.toNat) (by omega))).trans ?_
      rw [Int.toNat_of_nonneg h.1]
      rfl
  · refine ⟨nClock, _, rfl, by decide, cl [P.de, P.ra, P.mo] _ (cln_of (by decide)), rfl, ?_⟩
    rw [one_clock, show [itoT P.de, itoT P.ra, itoT P.mo] = [P.de, P.ra, P.mo].map itoT from rfl, nums_ito _ (fun v hv => hb v (by simp [Pl.nums] at hv ⊢; rcases hv with h | h | h <;> simp [h]))]
    kernel_rfl
  · refine ⟨nTrace, _, rfl, by decide, cl [P.sz] _ (cln_of (by decide)), rfl, ?_⟩
    rw [one_trace, show [itoT P.sz] = [P.sz].map itoT from rfl, nums_ito _ (fun v hv => hb v (by simp [Pl.nums] at hv ⊢; simp [hv]))]
    kernel_rfl
theorem run_nine {P : Pl} (hA : P.All) (hc : P.cf.cm.length = 32) (i j : Nat) : ∀ (A : List (List Tx)) (k : Nat) (f : Tx → Bool) (S : List Tx), (∀ w ∈ A, w ∈ nineP P) → (A.map List.head?).Nodup → (∀ w ∈ A, ∀ nm, w.head? = some nm → nm ∉ S) →
    ∃ f' S', runT (A.map lnJ) k (mixP P f i j, S) = .inr (mixP P f' i j, S') ∧ (∀ n, f' n = true ↔ f n = true ∨ some n ∈ A.map List.head?) ∧ (∀ n, n ∈ S' ↔ n ∈ S ∨ some n ∈ A.map List.head?)
  | [], k, f, S, _, _, _ => ⟨f, S, rfl, fun n => by simp, fun n => by simp⟩
  | w :: r, k, f, S, hs, hnd, hS => by
    obtain ⟨nm, a, rfl, hnm, hcl, hsay, h1⟩ := nine_one hA hc f i j (hs w (List.mem_cons_self ..))
    rw [List.map_cons, List.nodup_cons] at hnd
    have hst := step_line (S := S) hcl ((line_nm hnm).trans h1) (fun _ _ => hS _ (List.mem_cons_self ..) nm rfl)
    obtain ⟨f', S', h2, h3, h4⟩ := run_nine hA hc i j r (k + 1) (addF nm f) (S ++ [nm]) (fun x hx => hs x (List.mem_cons_of_mem _ hx)) hnd.2 (fun x hx n hn hm => by
      rcases List.mem_append.1 hm with hm | hm
      · exact hS x (List.mem_cons_of_mem _ hx) n hn hm
      · rw [List.mem_singleton.1 hm] at hn
        exact hnd.1 (by rw [List.head?_cons, ← hn]; exact List.mem_map_of_mem hx))
    refine ⟨f', S', ?_, fun n => ?_, fun n => ?_⟩
    · rw [List.map_cons, runT_says hsay hst, h2]
    · rw [h3, addF, Bool.or_eq_true, beq_iff_eq, List.map_cons, List.mem_cons, List.head?_cons, Option.some.injEq, or_assoc, or_left_comm]
    · rw [h4, List.mem_append, List.mem_singleton, List.map_cons, List.mem_cons, List.head?_cons, Option.some.injEq, or_assoc]
theorem pairs_flat : ∀ L : List Pt, pairsL (L.flatMap fun p => [p.1, p.2]) = L
  | [] => rfl
  | (a, b) :: r => by
    rw [List.flatMap_cons]
    show (a, b) :: pairsL (r.flatMap fun p => [p.1, p.2]) = _
    rw [pairs_flat r]
theorem src_one {s : Sr} (hs : s.All) (hb : s.bare = true) : ∃ a, srcP s = nSource :: a ∧ (∀ x ∈ srcP s, Cln x) ∧ saysT (lnJ (srcP s)) = true ∧ srcT a = some s := by
  have hi := fun n hn => hs.n n hn
  have n1 := numT_itoT (hi s.id (by simp [Sr.nums])).1 (hi s.id (by simp [Sr.nums])).2
  have n2 := numT_itoT (hi s.kd (by simp [Sr.nums])).1 (hi s.kd (by simp [Sr.nums])).2
  have n3 := keyT_hexT hs.rt
  refine ⟨_, rfl, fun x hx => ?_, rfl, ?_⟩
  · rw [srcP] at hx
    simp only [List.mem_cons] at hx
    rcases hx with rfl | rfl | rfl | rfl | hx
    · exact cln_of (by decide)
    · exact cln_ito _
    · exact cln_ito _
    · exact cln_of (hexT_ge _)
    · split at hx
      · simp only [List.mem_cons, List.not_mem_nil, or_false] at hx
        rcases hx with rfl | rfl | rfl | rfl | rfl | rfl | rfl | rfl | rfl | rfl | rfl | rfl | rfl | rfl <;> exact cln_ito _
      · cases hx
  · rw [srcT]
    simp only [n1, n2, n3]
    by_cases ha : aidB s.kd = true
    · rw [if_pos ha, if_pos ha]
      rw [show [itoT s.w, itoT s.g, itoT s.st, itoT s.hz, itoT s.wt.go, itoT s.wt.gg, itoT s.wt.gm, itoT s.wt.sl, itoT s.wt.mo, itoT s.wt.sa, itoT s.wt.ra, itoT s.wt.ba, itoT s.wt.ho, itoT s.wt.pr] = [s.w, s.g, s.st, s.hz, s.wt.go, s.wt.gg, s.wt.gm, s.wt.sl, s.wt.mo, s.wt.sa, s.wt.ra, s.wt.ba, s.wt.ho, s.wt.pr].map itoT from rfl,
        nums_ito _ (fun v hv => hi v (by
          have : v ∈ s.id :: s.kd :: [s.w, s.g, s.st, s.hz, s.wt.go, s.wt.gg, s.wt.gm, s.wt.sl, s.wt.mo, s.wt.sa, s.wt.ra, s.wt.ba, s.wt.ho, s.wt.pr] := List.mem_cons_of_mem _ (List.mem_cons_of_mem _ hv)
          exact this))]
    · rw [if_neg ha, if_neg ha, if_pos rfl]
      have hz : s.zero = true := by
        rw [Sr.bare, Bool.or_eq_true] at hb
        exact hb.resolve_left ha
      simp only [Sr.zero, decide_eq_true_eq] at hz
      obtain ⟨id, kd, rt, w, g, st, hzz, ⟨go, gg, gm, sl, mo, sa, ra, ba, ho, pr⟩⟩ := s
      dsimp only at hz
      obtain ⟨rfl, rfl, rfl, rfl, rfl, rfl, rfl, rfl, rfl, rfl, rfl, rfl, rfl, rfl⟩ := hz
      rfl
theorem zon_one {z : Zn} (hz : z.All) : ∃ a, zonP z = nZone :: a ∧ (∀ x ∈ zonP z, Cln x) ∧ saysT (lnJ (zonP z)) = true ∧ zonT a = some z := by
  refine ⟨_, rfl, fun x hx => ?_, rfl, ?_⟩
  · rw [zonP] at hx
    simp only [List.mem_cons, List.mem_flatMap] at hx
    rcases hx with rfl | rfl | rfl | rfl | ⟨p, hp, hx⟩
    · exact cln_of (by decide)
    · split <;> exact cln_of (by decide)
    · exact cln_ito _
    · exact cln_ito _
    · rcases hx with rfl | rfl | hx
      · exact cln_ito _
      · exact cln_ito _
      · cases hx
  · have hk : (if z.keep = true then nIn else nOut) = nIn ∨ (if z.keep = true then nIn else nOut) = nOut := by
      split
      · exact .inl rfl
      · exact .inr rfl
    have hd : decide ((if z.keep = true then nIn else nOut) = nIn) = z.keep := by
      cases z.keep <;> decide
    have e : (itoT z.fl :: itoT z.rf :: z.L.flatMap fun p => [itoT p.1, itoT p.2]) = (z.fl :: z.rf :: z.L.flatMap fun p => [p.1, p.2]).map itoT := by
      rw [List.map_cons, List.map_cons, List.map_flatMap]; rfl
    have hb : ∀ v ∈ (z.fl :: z.rf :: z.L.flatMap fun p => [p.1, p.2]), i64 v := fun v hv => by
      simp only [List.mem_cons, List.mem_flatMap] at hv
      rcases hv with rfl | rfl | ⟨p, hp, hv⟩
      · exact hz.fl
      · exact hz.rf
      · rcases hv with rfl | rfl | hv
        · exact (hz.L p hp).1
        · exact (hz.L p hp).2
        · cases hv
    have hl : (z.L.flatMap fun p => [p.1, p.2]).length % 2 = 0 := by
      induction z.L with
      | nil => rfl
      | cons p r ih => rw [List.flatMap_cons, List.length_append]; show (2 + _) % 2 = 0; omega
    rw [zonT, if_pos hk, e, nums_ito _ hb]
    dsimp only
    rw [if_pos hl, hd, pairs_flat]
end Go.Proofs.YthndhipjfdgdfaaGreatDoor

namespace Go.Proofs.YthndhipjfdgdfaaGreatDoor
open Go.PK
/-! ### GramBack: all lines (plain Lean) -/
theorem take_snoc {α : Type} {l : List α} {i : Nat} {x : α} (h : l[i]? = some x) : l.take i ++ [x] = l.take (i + 1) := by rw [List.take_add_one, h]; rfl
theorem run_src {P : Pl} (hL : ∀ s ∈ P.cf.L, s.All ∧ s.bare = true) (f : Tx → Bool) (j : Nat) : ∀ (n i k : Nat) (S : List Tx), i + n = P.cf.L.length →
    ∃ S', runT (((P.cf.L.drop i).map srcP).map lnJ) k (mixP P f i j, S) = .inr (mixP P f P.cf.L.length j, S') ∧ (∀ x, x ∈ nmL → (x ∈ S' ↔ x ∈ S))
  | 0, i, k, S, h => by
    rw [Nat.add_zero] at h
    subst h
    rw [List.drop_length]
    exact ⟨S, rfl, fun _ _ => Iff.rfl⟩
  | n + 1, i, k, S, h => by
    have hi : i < P.cf.L.length := by omega
    have hx := List.getElem?_eq_getElem hi
    rw [List.drop_eq_getElem_cons hi]
    generalize P.cf.L[i] = s at hx
    obtain ⟨h1, h2⟩ := hL s (List.mem_of_getElem? hx)
    obtain ⟨a, ha, hcl, hsay, hs⟩ := src_one h1 h2
    rw [ha] at hcl hsay
    have hl : lineT (mixP P f i j) nSource a = some (mixP P f (i + 1) j) := by
      rw [lineT, if_pos rfl, hs]
      show some { mixP P f i j with cf := { (mixP P f i j).cf with L := P.cf.L.take i ++ [s] } } = _
      rw [take_snoc hx]
      rfl
    have hst := step_line (S := S) hcl hl (fun e => absurd rfl e)
    obtain ⟨S', h3, h4⟩ := run_src hL f j n (i + 1) (k + 1) (S ++ [nSource]) (by omega)
    refine ⟨S', ?_, fun x hm => ?_⟩
    · rw [List.map_cons, List.map_cons, ha, runT_says hsay hst, h3]
    · rw [h4 x hm, List.mem_append, List.mem_singleton]
      exact ⟨fun h => h.resolve_right (fun e => by rw [e] at hm; revert hm; decide), .inl⟩
theorem run_zon {P : Pl} (hL : ∀ z ∈ P.zs, z.All) (f : Tx → Bool) (j : Nat) : ∀ (n i k : Nat) (S : List Tx), i + n = P.zs.length →
    ∃ S', runT (((P.zs.drop i).map zonP).map lnJ) k (mixP P f j i, S) = .inr (mixP P f j P.zs.length, S') ∧ (∀ x, x ∈ nmL → (x ∈ S' ↔ x ∈ S))
  | 0, i, k, S, h => by
    rw [Nat.add_zero] at h
    subst h
    rw [List.drop_length]
    exact ⟨S, rfl, fun _ _ => Iff.rfl⟩
  | n + 1, i, k, S, h => by
    have hi : i < P.zs.length := by omega
    have hx := List.getElem?_eq_getElem hi
    rw [List.drop_eq_getElem_cons hi]
    generalize P.zs[i] = s at hx
    obtain ⟨a, ha, hcl, hsay, hs⟩ := zon_one (hL s (List.mem_of_getElem? hx))
    rw [ha] at hcl hsay
    have hl : lineT (mixP P f j i) nZone a = some (mixP P f j (i + 1)) := by
      rw [lineT, if_neg (by decide), if_pos rfl, hs]
      show some { mixP P f j i with zs := P.zs.take i ++ [s] } = _
      rw [take_snoc hx]
      rfl
    have hst := step_line (S := S) hcl hl (fun _ e => absurd rfl e)
    obtain ⟨S', h3, h4⟩ := run_zon hL f j n (i + 1) (k + 1) (S ++ [nZone]) (by omega)
    refine ⟨S', ?_, fun x hm => ?_⟩
    · rw [List.map_cons, List.map_cons, ha, runT_says hsay hst, h3]
    · rw [h4 x hm, List.mem_append, List.mem_singleton]
      exact ⟨fun h => h.resolve_right (fun e => by rw [e] at hm; revert hm; decide), .inl⟩
def szW (P : Pl) : List (List Tx) := P.cf.L.map srcP ++ P.zs.map zonP
structure BackOk (P : Pl) : Prop where
  all : P.All
  cm : P.cf.cm.length = 32
  bare : ∀ s ∈ P.cf.L, s.bare = true
theorem run_sz {P : Pl} (h : BackOk P) (f : Tx → Bool) (k : Nat) (S : List Tx) : ∃ S', runT ((szW P).map lnJ) k (mixP P f 0 0, S) = .inr (mixP P f P.cf.L.length P.zs.length, S') ∧ (∀ x, x ∈ nmL → (x ∈ S' ↔ x ∈ S)) := by
  obtain ⟨S1, h1, h2⟩ := run_src (P := P) (fun s hs => ⟨h.all.L s hs, h.bare s hs⟩) f 0 P.cf.L.length 0 k S (Nat.zero_add _)
  rw [List.drop_zero] at h1
  obtain ⟨S2, h3, h4⟩ := run_zon (P := P) h.all.z f P.cf.L.length P.zs.length 0 (k + (((P.cf.L).map srcP).map lnJ).length) S1 (Nat.zero_add _)
  rw [List.drop_zero] at h3
  refine ⟨S2, ?_, fun x hm => (h4 x hm).trans (h2 x hm)⟩
  rw [szW, List.map_append, runT_app _ _ _ _ _ h1, h3]
theorem heads {P : Pl} : (nineP P).map List.head? = nmL.map some := rfl
theorem run_note {note : Tx} {A B : List Tx} {k : Nat} {st st' : PS} (hn : saysT note = false) (h : runT A k st = .inr st') : runT (A ++ ([note, []] ++ B)) k st = runT B (k + A.length + 1 + 1) st' := by
  rw [runT_app _ _ _ _ _ h]
  show runT (note :: [] :: B) _ _ = _
  rw [runT_skip hn, runT_skip rfl]
/-- Nine lines in any order ahead of the others, or behind them; a remark between. -/
theorem back_run {P : Pl} (h : BackOk P) {A : List (List Tx)} (hp : A.Perm (nineP P)) {note : Tx} (hn : saysT note = false) (odd : Bool) :
    ∃ S, runT (if odd = true then [note, []] ++ ((szW P).map lnJ ++ A.map lnJ) else A.map lnJ ++ ([note, []] ++ (szW P).map lnJ)) 0 (zeroPl, []) = .inr (P, S) ∧ allT S = true := by
  have hsub : ∀ w ∈ A, w ∈ nineP P := fun w hw => hp.mem_iff.1 hw
  have hph : (A.map List.head?).Perm (nmL.map some) := by rw [← heads (P := P)]; exact hp.map _
  have hnd : (A.map List.head?).Nodup := hph.nodup_iff.2 (by decide)
  have hmem : ∀ n, n ∈ nmL → some n ∈ A.map List.head? := fun n hm => hph.mem_iff.2 (List.mem_map_of_mem hm)
  rw [mix_0 P]
  cases odd with
  | false =>
    obtain ⟨f', S1, h1, h2, h3⟩ := run_nine h.all h.cm 0 0 A 0 (fun _ => false) [] hsub hnd (fun _ _ _ _ hm => by cases hm)
    obtain ⟨S2, h4, h5⟩ := run_sz h f' (0 + (A.map lnJ).length + 1 + 1) S1
    refine ⟨S2, ?_, List.all_eq_true.2 fun n hm => ?_⟩
    · rw [if_neg Bool.false_ne_true, run_note hn h1, h4, mix_all (fun n hm => (h2 n).2 (.inr (hmem n hm)))]
    · rw [decide_eq_true_eq, h5 n hm, h3]; exact .inr (hmem n hm)
  | true =>
    obtain ⟨S2, h4, h5⟩ := run_sz h (fun _ => false) (0 + 0 + 1 + 1) []
    obtain ⟨f', S1, h1, h2, h3⟩ := run_nine h.all h.cm P.cf.L.length P.zs.length A (0 + 0 + 1 + 1 + ((szW P).map lnJ).length) (fun _ => false) S2 hsub hnd (fun w hw nm hw2 hm => by
      have hnm : nm ∈ nmL := by
        have := hph.mem_iff.1 (List.mem_map_of_mem (f := List.head?) hw)
        rw [hw2] at this
        obtain ⟨y, hy, e⟩ := List.mem_map.1 this
        rw [← Option.some.inj e]; exact hy
      have := (h5 nm hnm).1 hm
      cases this)
    refine ⟨S1, ?_, List.all_eq_true.2 fun n hm => ?_⟩
    · rw [if_pos rfl]
      have e := run_note (A := []) (B := (szW P).map lnJ ++ A.map lnJ) (k := 0) (st := (mixP P (fun _ => false) 0 0, [])) hn rfl
      rw [List.nil_append] at e
      rw [e, List.length_nil, runT_app _ _ _ _ _ h4, h1, mix_all (fun n hm => (h2 n).2 (.inr (hmem n hm)))]
    · rw [decide_eq_true_eq, h3]; exact .inr (hmem n hm)
/-- The lines, laid as the law lays them. -/
def backL (P : Pl) (A : List (List Tx)) (note : Tx) (odd : Bool) : List Tx := if odd = true then [note, []] ++ ((szW P).map lnJ ++ A.map lnJ) else A.map lnJ ++ ([note, []] ++ (szW P).map lnJ)
theorem ln_le {w : List Tx} {k m : Nat} (h : ∀ s ∈ w, s.length ≤ k) (hm : w.length ≤ m) : (lnJ w).length ≤ m * (k + 1) := by
  have h1 := lnP_len h
  rw [lnP, List.length_append, List.length_singleton] at h1
  have h2 := Nat.mul_le_mul_right (k + 1) hm
  have h3 : (lnJ w).length = (jnL 32#8 w).length := rfl
  omega
structure Small (P : Pl) : Prop where
  nl : P.cf.L.length ≤ 12
  nz : P.zs.length ≤ 12
  np : ∀ z ∈ P.zs, z.L.length ≤ 20
theorem zon_le {z : Zn} (hz : z.All) (hn : z.L.length ≤ 20) : (lnJ (zonP z)).length ≤ 2860 := by
  refine Nat.le_trans (ln_le (k := 64) (m := 44) (zonP_le hz).1 ?_) (by decide)
  have := ptW_len z.L
  rw [zonP]
  show (ptW z.L).length + 4 ≤ _
  omega
end Go.Proofs.YthndhipjfdgdfaaGreatDoor

namespace Go.Proofs.YthndhipjfdgdfaaGreatDoor
open Go.PK
/-! ### GramBack: the text, cut and read (plain Lean) -/
theorem jn_no {c d : B8} (hd : d ≠ c) : ∀ l : List Tx, (∀ a ∈ l, c ∉ a) → c ∉ jnL d l
  | [], _ => by simp [jnL]
  | [a], h => h a (by simp)
  | a :: b :: r, h => by
    rw [jnL, List.mem_append, List.mem_cons]
    rintro (h1 | h1 | h1)
    · exact h a (by simp) h1
    · exact hd h1.symm
    · exact jn_no hd (b :: r) (fun x hx => h x (List.mem_cons_of_mem _ hx)) h1
theorem flat_jn : ∀ W : List (List Tx), W ≠ [] → W.flatMap lnP = jnL 10#8 (W.map lnJ) ++ [10#8]
  | [], h => absurd rfl h
  | [w], _ => by simp [lnP, jnL, lnJ]
  | a :: b :: r, _ => by
    rw [List.flatMap_cons, flat_jn (b :: r) (by simp)]
    show lnP a ++ _ = (lnJ a ++ 10#8 :: jnL 10#8 ((b :: r).map lnJ)) ++ [10#8]
    simp [lnP, lnJ]
theorem backF (P : Pl) (A : List (List Tx)) (note : Tx) : backL P A note false = A.map lnJ ++ ([note, []] ++ (szW P).map lnJ) := rfl
theorem backT (P : Pl) (A : List (List Tx)) (note : Tx) : backL P A note true = [note, []] ++ ((szW P).map lnJ ++ A.map lnJ) := rfl
theorem plP_eq (P : Pl) : plP P = nineP P ++ szW P := by rw [plP, szW, List.append_assoc]
theorem line_cln {P : Pl} (h : BackOk P) : ∀ w ∈ nineP P ++ szW P, 10#8 ∉ lnJ w := by
  intro w hw
  refine jn_no (by decide) w (fun x hx => ?_)
  rcases List.mem_append.1 hw with hw | hw
  · obtain ⟨nm, a, -, -, hc, -⟩ := nine_one h.all h.cm (fun _ => false) 0 0 hw
    exact (hc x hx).2
  · rcases List.mem_append.1 hw with hw | hw
    · obtain ⟨s, hs, rfl⟩ := List.mem_map.1 hw
      obtain ⟨a, -, hc, -⟩ := src_one (h.all.L s hs) (h.bare s hs)
      exact (hc x hx).2
    · obtain ⟨z, hz, rfl⟩ := List.mem_map.1 hw
      obtain ⟨a, -, hc, -⟩ := zon_one (h.all.z z hz)
      exact (hc x hx).2
theorem split_print {P : Pl} (h : BackOk P) : splL 10#8 (jnL 10#8 ((plP P).map lnJ)) = (plP P).map lnJ := by
  refine splL_jn _ (by rw [plP_eq]; simp [nineP]) (fun x hx => ?_)
  obtain ⟨w, hw, rfl⟩ := List.mem_map.1 hx
  exact line_cln h w (by rw [← plP_eq]; exact hw)
theorem sz_len (P : Pl) : (szW P).length = P.cf.L.length + P.zs.length := by rw [szW, List.length_append, List.length_map, List.length_map]
theorem sz_flat {P : Pl} (h : BackOk P) (hs : Small P) : ((szW P).map lnJ).flatten.length ≤ 48360 := by
  rw [szW, List.map_append, List.flatten_append, List.length_append]
  have h1 := flat_le (l := (P.cf.L.map srcP).map lnJ) (k := 1170) (fun x hx => by
    obtain ⟨w, hw, rfl⟩ := List.mem_map.1 hx
    obtain ⟨s, hsm, rfl⟩ := List.mem_map.1 hw
    have := srcP_le (h.all.L s hsm)
    exact Nat.le_trans (ln_le this.1 this.2) (by decide))
  have h2 := flat_le (l := (P.zs.map zonP).map lnJ) (k := 2860) (fun x hx => by
    obtain ⟨w, hw, rfl⟩ := List.mem_map.1 hx
    obtain ⟨z, hz, rfl⟩ := List.mem_map.1 hw
    exact zon_le (h.all.z z hz) (hs.np z hz))
  rw [List.length_map, List.length_map] at h1 h2
  have := hs.nl
  have := hs.nz
  omega
theorem nine_flat {P : Pl} (h : BackOk P) {A : List (List Tx)} (hp : A.Perm (nineP P)) : (A.map lnJ).flatten.length ≤ 2925 ∧ A.length = 9 := by
  have hl : A.length = 9 := hp.length_eq
  have h1 := flat_le (l := A.map lnJ) (k := 325) (fun x hx => by
    obtain ⟨w, hw, rfl⟩ := List.mem_map.1 hx
    have := nine_le h.all h.cm w (hp.mem_iff.1 hw)
    exact Nat.le_trans (ln_le this.1 this.2) (by decide))
  rw [List.length_map, hl] at h1
  exact ⟨h1, hl⟩
theorem back_len {P : Pl} (h : BackOk P) (hs : Small P) {A : List (List Tx)} (hp : A.Perm (nineP P)) {note : Tx} (hnl : note.length ≤ 101) (odd : Bool) : (backL P A note odd).flatten.length ≤ 60000 ∧ (backL P A note odd).length ≤ 35 ∧ 0 < (backL P A note odd).length := by
  obtain ⟨h1, h2⟩ := nine_flat h hp
  have h3 := sz_flat h hs
  have h4 := sz_len P
  have := hs.nl
  have := hs.nz
  cases odd <;> simp only [backF, backT, List.flatten_append, List.length_append, List.flatten_cons, List.flatten_nil, List.length_nil, List.length_cons, List.length_map] <;> omega
theorem parse_back {P : Pl} (h : BackOk P) (hs : Small P) (hok : P.ok = true) {A : List (List Tx)} (hp : A.Perm (nineP P)) {note : Tx} (hn : saysT note = false) (hnl : note.length ≤ 101) (hnc : 10#8 ∉ note) (odd : Bool) : parseT (jnL 10#8 (backL P A note odd)) = (P, 0, 0) := by
  obtain ⟨h1, h2, h3⟩ := back_len h hs hp hnl odd
  have h4 := jnL_len 10#8 (backL P A note odd)
  have hcl : ∀ a ∈ backL P A note odd, 10#8 ∉ a := fun a ha => by
    have key : a ∈ A.map lnJ ∨ a = note ∨ a = [] ∨ a ∈ (szW P).map lnJ := by
      revert ha
      cases odd <;> simp only [backF, backT, List.mem_append, List.mem_cons, List.not_mem_nil, or_false]
      · rintro (h | (h | h) | h)
        · exact .inl h
        · exact .inr (.inl h)
        · exact .inr (.inr (.inl h))
        · exact .inr (.inr (.inr h))
      · rintro ((h | h) | h | h)
        · exact .inr (.inl h)
        · exact .inr (.inr (.inl h))
        · exact .inr (.inr (.inr h))
        · exact .inl h
    rcases key with ha | rfl | rfl | ha
    · obtain ⟨w, hw, rfl⟩ := List.mem_map.1 ha
      exact line_cln h w (List.mem_append_left _ (hp.mem_iff.1 hw))
    · exact hnc
    · simp
    · obtain ⟨w, hw, rfl⟩ := List.mem_map.1 ha
      exact line_cln h w (List.mem_append_right _ hw)
  have hsp : splL 10#8 (jnL 10#8 (backL P A note odd)) = backL P A note odd := splL_jn _ (List.length_pos_iff.1 h3) hcl
  obtain ⟨S, hr, ha⟩ := back_run h hp hn odd
  have hct := List.countP_le_length (p := saysT) (l := backL P A note odd)
  have hr : runT (backL P A note odd) 0 (zeroPl, []) = .inr (P, S) := hr
  rw [parseT, if_neg (by omega), hsp, if_neg (by omega), hr]
  dsimp only
  rw [if_pos ha, if_pos hok]
/-- Two lines change places. -/
theorem swap_perm {α : Type} {A B : List α} (hp : A.Perm B) {i k : Nat} {x y : α} (hi : A[i]? = some x) (hk : A[k]? = some y) : ((A.set i y).set k x).Perm B := by
  obtain ⟨h1, rfl⟩ := List.getElem?_eq_some_iff.1 hi
  obtain ⟨h2, rfl⟩ := List.getElem?_eq_some_iff.1 hk
  exact (List.set_set_perm h1 h2).trans hp
end Go.Proofs.YthndhipjfdgdfaaGreatDoor
