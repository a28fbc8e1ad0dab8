import Derived.Test.YtbdnebedmdoehaaU8
import Derived.Test.YtbdnebedmdoehaaPE
namespace Go.Proofs.Ytbdnebedmdoehaa
open Go.PK
/-! ### Finding a source -/
def zeroS : Sr := ⟨0, 0, List.replicate 32 0, 0, 0, 0, 0, ⟨0, 0, 0, 0, 0, 0, 0, 0, 0, 0⟩⟩
def idxS (p : Sr → Bool) (L : List Sr) : Int := match L.findIdx? p with
  | some i => (i : Int)
  | none => -1
def pickS (p : Sr → Bool) (L : List Sr) : Sr × Bool := match L.find? p with
  | some s => (s, true)
  | none => (zeroS, false)
theorem zeroS_fit : zeroS.Fit := ⟨rfl, by simp [zeroS, i64], by simp [zeroS, i64], by simp [zeroS, i64]⟩
theorem pickS_fit {p : Sr → Bool} {L : List Sr} (h : ∀ s ∈ L, s.Fit) : (pickS p L).1.Fit := by
  unfold pickS
  cases hx : L.find? p with
  | none => exact zeroS_fit
  | some s => exact h s (List.mem_of_find?_eq_some hx)
theorem none_all {p : Sr → Bool} {L : List Sr} (h : ∀ j < L.length, ∀ s, L[j]? = some s → p s = false) : ∀ s ∈ L, ¬ p s = true := fun s hs => by
  obtain ⟨j, hj, rfl⟩ := List.mem_iff_getElem.1 hs
  rw [h j hj _ (List.getElem?_eq_getElem hj)]; decide
theorem idxS_no {p : Sr → Bool} {L : List Sr} (h : ∀ j < L.length, ∀ s, L[j]? = some s → p s = false) : idxS p L = -1 := by
  rw [idxS, List.findIdx?_eq_none_iff.2 (fun s hs => by simpa using none_all h s hs)]
theorem idxS_yes {p : Sr → Bool} {L : List Sr} {i : Nat} {s : Sr} (hx : L[i]? = some s) (hp : p s = true) (h : ∀ j < i, ∀ s, L[j]? = some s → p s = false) : idxS p L = i := by
  obtain ⟨hlt, rfl⟩ := List.getElem?_eq_some_iff.1 hx
  rw [idxS, List.findIdx?_eq_some_iff_getElem.2 ⟨hlt, hp, fun j hj => by
    have := h j hj _ (List.getElem?_eq_getElem (by omega)); rw [this]; decide⟩]
theorem pickS_no {p : Sr → Bool} {L : List Sr} (h : ∀ j < L.length, ∀ s, L[j]? = some s → p s = false) : pickS p L = (zeroS, false) := by
  rw [pickS, List.find?_eq_none.2 (none_all h)]
theorem pickS_yes {p : Sr → Bool} {L : List Sr} {i : Nat} {s : Sr} (hx : L[i]? = some s) (hp : p s = true) (h : ∀ j < i, ∀ s, L[j]? = some s → p s = false) : pickS p L = (s, true) := by
  obtain ⟨hlt, rfl⟩ := List.getElem?_eq_some_iff.1 hx
  rw [pickS, List.find?_eq_some_iff_getElem.2 ⟨hp, i, hlt, rfl, fun j hj => by
    have := h j hj _ (List.getElem?_eq_getElem (by omega)); rw [this]; decide⟩]
theorem pick_of_idx {p : Sr → Bool} {L : List Sr} : (idxS p L = -1 ∧ pickS p L = (zeroS, false)) ∨ ∃ i s, L[i]? = some s ∧ idxS p L = (i : Nat) ∧ pickS p L = (s, true) := by
  by_cases h : ∀ j < L.length, ∀ s, L[j]? = some s → p s = false
  · exact .inl ⟨idxS_no h, pickS_no h⟩
  · right
    cases hf : L.findIdx? p with
    | none =>
      refine absurd (fun j hj s hs => ?_) h
      simpa using List.findIdx?_eq_none_iff.1 hf s (List.mem_of_getElem? hs)
    | some i =>
      obtain ⟨hlt, hp, hb⟩ := List.findIdx?_eq_some_iff_getElem.1 hf
      have hx := List.getElem?_eq_getElem hlt
      have hb' : ∀ j < i, ∀ s, L[j]? = some s → p s = false := fun j hj s hs => by
        obtain ⟨_, rfl⟩ := List.getElem?_eq_some_iff.1 hs
        simpa using hb j hj
      exact ⟨i, _, hx, idxS_yes hx hp hb', pickS_yes hx hp hb'⟩
theorem find_clo (s : Sr) (hs : s.Fit) (b : Nat) (n : Int) : Spc Try.prog 47 #[.agg s.cells.toArray, .pointer (some ⟨b, 0, none⟩)] [cel b [.int .i64 n] 3] [] (Is (.bool ((fun s : Sr => s.id == n) s))) := by
  have hsl := sr_len hs.rt
  refine Spc.enter Try.func47 rfl rfl rfl (fun w0 hw0 => ?_)
  refine CW.seq (CW.region (ef := [0]) (bk := []) (RL.box rfl rfl rfl rfl rfl rfl ?_))
  intro b1
  refine RL.p rfl (RL.nil (NQ.seq (CW.seq (CW.freezeAll rfl ?_))))
  refine CW.genI (fun J hJ => ?_)
  have m1 : cel b1 s.cells 57 ∈ J := hJ _ (List.Mem.head _)
  have m2 : cel b [.int .i64 n] 3 ∈ J := hJ _ (List.Mem.tail _ (List.Mem.head _))
  have f1 : RdI J ⟨b1, 0 + 0, none⟩ (.int .i64 s.id) := ⟨fun _ => Rd.celI m1 rfl⟩
  have f2 : RdI J ⟨b, 0, none⟩ (.int .i64 n) := ⟨fun _ => Rd.celI m2 rfl⟩
  clear hJ
  refine CW.rg (RL.fieldAddr fa_57_0 rfl rfl rfl rfl (RL.loadq Try.isAgg3 rfl rfl rfl rfl ?_))
  refine RL.loadq Try.isAgg3 rfl rfl rfl rfl ?_
  refine RL.p rfl (RL.p rfl (RL.nil (NQ.seq (CW.ok [3] rfl (CW.ret ?_)))))
  exact RQ.post (res1 rfl rfl) (Split.none _) ⟨rfl, rfl, rfl⟩
theorem find_idx (oa : Option Nat) (ca m : Nat) (L : List Sr) (hm : L.length = m) (hL : ∀ s ∈ L, s.Fit) (hl : m ≤ 1000000) (b : Nat) (n : Int) : Spc Try.prog 77 #[slO oa m ca, .func (.func 47) #[] #[.pointer (some ⟨b, 0, none⟩)]]
    [sls (oa.map fun b => ⟨b, 0, none⟩) 48 m (L.flatMap Sr.cells), cel b [.int .i64 n] 3] [] (Is (.int .i64 (idxS (fun s => (fun s : Sr => s.id == n) s) L))) := by
  subst hm
  have hLl : ∀ s ∈ L, s.cells.length = 48 := fun s hs => sr_len (hL s hs).rt
  refine Spc.enter Try.func77 rfl rfl rfl (fun w0 hw0 => ?_)
  refine CW.seq (CW.rg (RL.p rfl (RL.nil (NQ.seq (CW.seq (CW.seq (CW.rg (RL.p rfl (RL.lenS Try.runUnderlying23 rfl rfl rfl rfl (RL.p rfl (RL.nil (NQ.seq (CW.block ?_)))))))))))))
  refine CW.genI (fun J hJ => ?_)
  have m2 : sls (oa.map fun b => ⟨b, 0, none⟩) 48 L.length (L.flatMap Sr.cells) ∈ J := hJ _ (by simp)
  have mC : cel b [.int .i64 n] 3 ∈ J := hJ _ (by simp)
  clear hJ
  refine CW.loop (γ := Nat) (fun i => i ≤ L.length ∧ (∀ j < i, ∀ s, L[j]? = some s → ((fun s : Sr => s.id == n) s) = false)) (fun i => [(0, slO oa L.length ca), (1, .func (.func 47) #[] #[.pointer (some ⟨b, 0, none⟩)]), (7, .int .i64 (L.length : Int)), (8, .int .i64 (i : Int))]) (fun _ => J) (fun _ => []) (fun i => L.length - i) 0 ⟨Nat.zero_le _, fun j h => by omega⟩ (.cons rfl (.cons rfl (.cons rfl (.cons rfl .nil)))) (fun w h => h.rea (fun _ h => h) (by repeat (first | exact Rea.nil | (apply Rea.cons; (solve | (repeat (first | exact Del.here | apply Del.there))))))) ?_
  rintro i ⟨hi, hok⟩
  refine CW.fact (p := oa = none → L.length = 0) (fun w hC e => sls_nil (hC.s.i _ m2) (by rw [e]; rfl)) (fun hpa => ?_)
  refine CW.seq (CW.rg (RL.p rfl (RL.nil (NQ.seq (CW.seq ?_)))))
  refine CW.cond rfl (fun hlt => ?_) (fun hlt => ?_)
  ·
    have hlt : i < L.length := by simp at hlt; omega
    cases oa with
    | none => exact absurd (hpa rfl) (by omega)
    | some ba =>
    have hx := List.getElem?_eq_getElem hlt
    generalize L[i] = s at hx
    have hs := hL s (List.mem_of_getElem? hx)
    have hsl := hLl s (List.mem_of_getElem? hx)
    have fA : RdsN J ⟨ba, 0 + i * 48, none⟩ 48 s.cells := flat_rdsN (f := Sr.cells) m2 hx hLl
    refine CW.skip (NQ.seq (CW.seq (CW.block (CW.seq (CW.rg (RL.p rfl (RL.p rfl (RL.nil (NQ.seq (CW.seq (CW.rg (RL.p rfl (RL.p rfl ?_)))))))))))))
    refine RL.p rfl (RL.idxAt (j := i) Try.runUnderlying23 Try.sizeOf57 rfl rfl rfl rfl rfl rfl (hlt) (RL.loadSq Try.isAgg57 Try.sizeOf57 rfl rfl rfl rfl ?_))
    refine RL.callvFC (find_clo s hs b n) Try.call47 rfl rfl rfl rfl rfl (.inI mC .nil) rfl (RL.nil (NQ.seq (CW.ok [0, 1, 5, 7, 8, 16] rfl ?_)))
    refine CW.cond rfl (fun hp => ?_) (fun hp => ?_)
    ·
      refine CW.seq (CW.rg (RL.p rfl (RL.p rfl (RL.nil (NQ.seq (CW.ret (RQ.block (RQ.seq (RQ.seq (RQ.block (RQ.seq ?_)))))))))))
      exact RQ.post (res1 rfl rfl) (Split.none _) ⟨by rw [idxS_yes hx hp hok], rfl, rfl⟩
    ·
      refine CW.skip (NQ.block (NQ.seq (CW.rg (RL.bx rfl (wrapV_i64 (by omega) (by omega)) ?_))))
      refine RL.p rfl (RL.nil ?_)
      refine NQ.round (g := i) (i + 1) ⟨hlt, fun j hj s' hs' => ?_⟩ (by show L.length - (i + 1) < L.length - i; omega) (.cons rfl (.cons rfl (.cons rfl (.cons rfl .nil)))) (fun w h => h.rea (fun _ h => h) (by repeat (first | exact Rea.nil | (apply Rea.cons; (solve | (repeat (first | exact Del.here | apply Del.there)))))))
      rcases Nat.lt_succ_iff_lt_or_eq.1 hj with hj | rfl
      · exact hok j hj s' hs'
      · rw [hx] at hs'; cases hs'; exact hp
  ·
    refine CW.exit (XQ.seq (XQ.seq (XQ.hit (NQ.seq (CW.seq (CW.rg (RL.p rfl (RL.nil (NQ.seq (CW.ret ?_))))))))))
    have hin : i = L.length := by simp at hlt; omega
    subst hin
    exact RQ.post (res1 rfl rfl) (Split.none _) ⟨by rw [idxS_no hok], rfl, rfl⟩
theorem of_clo (s : Sr) (hs : s.Fit) (b : Nat) (n : Int) : Spc Try.prog 48 #[.agg s.cells.toArray, .pointer (some ⟨b, 0, none⟩)] [cel b [.int .i64 n] 3] [] (Is (.bool ((fun s : Sr => s.kd == n) s))) := by
  have hsl := sr_len hs.rt
  refine Spc.enter Try.func48 rfl rfl rfl (fun w0 hw0 => ?_)
  refine CW.seq (CW.region (ef := [0]) (bk := []) (RL.box rfl rfl rfl rfl rfl rfl ?_))
  intro b1
  refine RL.p rfl (RL.nil (NQ.seq (CW.seq (CW.freezeAll rfl ?_))))
  refine CW.genI (fun J hJ => ?_)
  have m1 : cel b1 s.cells 57 ∈ J := hJ _ (List.Mem.head _)
  have m2 : cel b [.int .i64 n] 3 ∈ J := hJ _ (List.Mem.tail _ (List.Mem.head _))
  have f1 : RdI J ⟨b1, 0 + 1, none⟩ (.int .i64 s.kd) := ⟨fun _ => Rd.celI m1 rfl⟩
  have f2 : RdI J ⟨b, 0, none⟩ (.int .i64 n) := ⟨fun _ => Rd.celI m2 rfl⟩
  clear hJ
  refine CW.rg (RL.fieldAddr fa_57_1 rfl rfl rfl rfl (RL.loadq Try.isAgg3 rfl rfl rfl rfl ?_))
  refine RL.loadq Try.isAgg3 rfl rfl rfl rfl ?_
  refine RL.p rfl (RL.p rfl (RL.nil (NQ.seq (CW.ok [3] rfl (CW.ret ?_)))))
  exact RQ.post (res1 rfl rfl) (Split.none _) ⟨rfl, rfl, rfl⟩
theorem of_idx (oa : Option Nat) (ca m : Nat) (L : List Sr) (hm : L.length = m) (hL : ∀ s ∈ L, s.Fit) (hl : m ≤ 1000000) (b : Nat) (n : Int) : Spc Try.prog 77 #[slO oa m ca, .func (.func 48) #[] #[.pointer (some ⟨b, 0, none⟩)]]
    [sls (oa.map fun b => ⟨b, 0, none⟩) 48 m (L.flatMap Sr.cells), cel b [.int .i64 n] 3] [] (Is (.int .i64 (idxS (fun s => (fun s : Sr => s.kd == n) s) L))) := by
  subst hm
  have hLl : ∀ s ∈ L, s.cells.length = 48 := fun s hs => sr_len (hL s hs).rt
  refine Spc.enter Try.func77 rfl rfl rfl (fun w0 hw0 => ?_)
  refine CW.seq (CW.rg (RL.p rfl (RL.nil (NQ.seq (CW.seq (CW.seq (CW.rg (RL.p rfl (RL.lenS Try.runUnderlying23 rfl rfl rfl rfl (RL.p rfl (RL.nil (NQ.seq (CW.block ?_)))))))))))))
  refine CW.genI (fun J hJ => ?_)
  have m2 : sls (oa.map fun b => ⟨b, 0, none⟩) 48 L.length (L.flatMap Sr.cells) ∈ J := hJ _ (by simp)
  have mC : cel b [.int .i64 n] 3 ∈ J := hJ _ (by simp)
  clear hJ
  refine CW.loop (γ := Nat) (fun i => i ≤ L.length ∧ (∀ j < i, ∀ s, L[j]? = some s → ((fun s : Sr => s.kd == n) s) = false)) (fun i => [(0, slO oa L.length ca), (1, .func (.func 48) #[] #[.pointer (some ⟨b, 0, none⟩)]), (7, .int .i64 (L.length : Int)), (8, .int .i64 (i : Int))]) (fun _ => J) (fun _ => []) (fun i => L.length - i) 0 ⟨Nat.zero_le _, fun j h => by omega⟩ (.cons rfl (.cons rfl (.cons rfl (.cons rfl .nil)))) (fun w h => h.rea (fun _ h => h) (by repeat (first | exact Rea.nil | (apply Rea.cons; (solve | (repeat (first | exact Del.here | apply Del.there))))))) ?_
  rintro i ⟨hi, hok⟩
  refine CW.fact (p := oa = none → L.length = 0) (fun w hC e => sls_nil (hC.s.i _ m2) (by rw [e]; rfl)) (fun hpa => ?_)
  refine CW.seq (CW.rg (RL.p rfl (RL.nil (NQ.seq (CW.seq ?_)))))
  refine CW.cond rfl (fun hlt => ?_) (fun hlt => ?_)
  ·
    have hlt : i < L.length := by simp at hlt; omega
    cases oa with
    | none => exact absurd (hpa rfl) (by omega)
    | some ba =>
    have hx := List.getElem?_eq_getElem hlt
    generalize L[i] = s at hx
    have hs := hL s (List.mem_of_getElem? hx)
    have hsl := hLl s (List.mem_of_getElem? hx)
    have fA : RdsN J ⟨ba, 0 + i * 48, none⟩ 48 s.cells := flat_rdsN (f := Sr.cells) m2 hx hLl
    refine CW.skip (NQ.seq (CW.seq (CW.block (CW.seq (CW.rg (RL.p rfl (RL.p rfl (RL.nil (NQ.seq (CW.seq (CW.rg (RL.p rfl (RL.p rfl ?_)))))))))))))
    refine RL.p rfl (RL.idxAt (j := i) Try.runUnderlying23 Try.sizeOf57 rfl rfl rfl rfl rfl rfl (hlt) (RL.loadSq Try.isAgg57 Try.sizeOf57 rfl rfl rfl rfl ?_))
    refine RL.callvFC (of_clo s hs b n) Try.call48 rfl rfl rfl rfl rfl (.inI mC .nil) rfl (RL.nil (NQ.seq (CW.ok [0, 1, 5, 7, 8, 16] rfl ?_)))
    refine CW.cond rfl (fun hp => ?_) (fun hp => ?_)
    ·
      refine CW.seq (CW.rg (RL.p rfl (RL.p rfl (RL.nil (NQ.seq (CW.ret (RQ.block (RQ.seq (RQ.seq (RQ.block (RQ.seq ?_)))))))))))
      exact RQ.post (res1 rfl rfl) (Split.none _) ⟨by rw [idxS_yes hx hp hok], rfl, rfl⟩
    ·
      refine CW.skip (NQ.block (NQ.seq (CW.rg (RL.bx rfl (wrapV_i64 (by omega) (by omega)) ?_))))
      refine RL.p rfl (RL.nil ?_)
      refine NQ.round (g := i) (i + 1) ⟨hlt, fun j hj s' hs' => ?_⟩ (by show L.length - (i + 1) < L.length - i; omega) (.cons rfl (.cons rfl (.cons rfl (.cons rfl .nil)))) (fun w h => h.rea (fun _ h => h) (by repeat (first | exact Rea.nil | (apply Rea.cons; (solve | (repeat (first | exact Del.here | apply Del.there)))))))
      rcases Nat.lt_succ_iff_lt_or_eq.1 hj with hj | rfl
      · exact hok j hj s' hs'
      · rw [hx] at hs'; cases hs'; exact hp
  ·
    refine CW.exit (XQ.seq (XQ.seq (XQ.hit (NQ.seq (CW.seq (CW.rg (RL.p rfl (RL.nil (NQ.seq (CW.ret ?_))))))))))
    have hin : i = L.length := by simp at hlt; omega
    subst hin
    exact RQ.post (res1 rfl rfl) (Split.none _) ⟨by rw [idxS_no hok], rfl, rfl⟩
end Go.Proofs.Ytbdnebedmdoehaa
