import Derived.Test.YtbdnebedmdoehaaU6
namespace Go.Proofs.Ytbdnebedmdoehaa
open Go.PK
/-! ### Sources, together -/
def cnt (k : Int) (L : List Sr) : Int := ((L.countP fun s => s.kd == k : Nat) : Int)
theorem cnt_snoc {L : List Sr} {i : Nat} {s : Sr} (h : L[i]? = some s) (k : Int) : cnt k (L.take (i + 1)) = cnt k (L.take i) + if s.kd = k then 1 else 0 := by
  rw [cnt, cnt, List.take_add_one, h, List.countP_append]
  by_cases hk : s.kd = k <;> simp [hk]
theorem cnt_bd (k : Int) (L : List Sr) : 0 ≤ cnt k L ∧ cnt k L ≤ L.length := by
  have := List.countP_le_length (p := fun s : Sr => s.kd == k) (l := L)
  unfold cnt; omega
def MpOk (c : List (Value × Value)) (L : List Sr) : Prop := ∀ k : Int, (lookV (.int .i64 k) c).getD (.int .i64 0) = .int .i64 (cnt k L)
open Classical in
theorem look_set {k k' v : Value} : ∀ {c : List (Value × Value)}, lookV k (setV k' v c) = if k = k' then some v else lookV k c
  | [] => by simp [setV, lookV]
  | (a, u) :: c => by
    rw [setV]
    by_cases h : k' = a
    · subst h; rw [if_pos rfl]; simp only [lookV]; by_cases h2 : k = k' <;> simp [h2]
    · rw [if_neg h]; simp only [lookV]; rw [look_set]
      by_cases h2 : k = a
      · subst h2; simp [Ne.symm h]
      · simp [h2]
theorem MpOk.nil (L : List Sr) : MpOk [] (L.take 0) := fun k => by simp [lookV, cnt]
theorem MpOk.snoc {c : List (Value × Value)} {L : List Sr} {i : Nat} {s : Sr} (h : MpOk c (L.take i)) (hx : L[i]? = some s) : MpOk (setV (.int .i64 s.kd) (.int .i64 (cnt s.kd (L.take i) + 1)) c) (L.take (i + 1)) := fun k => by
  rw [look_set, cnt_snoc hx]
  by_cases hk : s.kd = k
  · subst hk; simp
  · rw [if_neg (by simpa using fun e => hk e.symm), if_neg hk, Int.add_zero]; exact h k
def wasS (L : List Sr) : Nat → Int
  | 0 => -1
  | i + 1 => match L[i]? with
    | some s => s.id
    | none => 0
def stepS (L : List Sr) (j : Nat) : Bool := match L[j]? with
  | some s => s.ok && decide (wasS L j < s.id)
  | none => true
def srsB (L : List Sr) : Bool := (List.range L.length).all (stepS L)
theorem srsB_iff {L : List Sr} : srsB L = true ↔ ∀ j, stepS L j = true := by
  rw [srsB, List.all_eq_true]
  constructor
  · intro h j
    by_cases hj : j < L.length
    · exact h j (List.mem_range.2 hj)
    · rw [stepS, List.getElem?_eq_none (by omega)]
  · exact fun h j _ => h j
theorem srsB_of {L : List Sr} (h : ∀ j < L.length, stepS L j = true) : srsB L = true := srsB_iff.2 fun j => by
  by_cases hj : j < L.length
  · exact h j hj
  · rw [stepS, List.getElem?_eq_none (by omega)]
theorem stepS_at {L : List Sr} {j : Nat} {s : Sr} (h : L[j]? = some s) : stepS L j = (s.ok && decide (wasS L j < s.id)) := by rw [stepS, h]
theorem wasS_prev {L : List Sr} {i : Nat} {q : Sr} (h : L[i - 1]? = some q) (hi : 0 < i) : wasS L i = q.id := by
  obtain ⟨j, rfl⟩ : ∃ j, i = j + 1 := ⟨i - 1, by omega⟩
  rw [wasS, show L[j]? = some q from h]
theorem sok_id {s : Sr} (h : s.ok = true) : 0 ≤ s.id ∧ s.id ≤ 7 := by
  simp [Sr.ok] at h; exact h.1
def manyB (L : List Sr) : Bool := decide (cnt 1 L = 1 ∧ cnt 5 L ≤ 1 ∧ cnt 8 L ≤ 1)
def srcB (L : List Sr) : Bool := srsB L && decide (L.length ≤ 8) && manyB L
theorem srcs_any (oa : Option Nat) (ca n : Nat) (L : List Sr) (hn : L.length = n) (hL : ∀ s ∈ L, s.Fit) (hl : n ≤ 1000000) :
    Spc Try.prog 44 #[slO oa n ca] [sls (oa.map fun b => ⟨b, 0, none⟩) 48 n (L.flatMap Sr.cells)] [] (Is (.bool (srcB L))) := by
  subst hn
  have hLl : ∀ s ∈ L, s.cells.length = 48 := fun s hs => sr_len (hL s hs).rt
  refine Spc.enter Try.func44 rfl rfl rfl (fun w0 hw0 => ?_)
  refine CW.seq (CW.rg (RL.p rfl (RL.nil (NQ.seq (CW.seq (CW.region (ef := [0]) (bk := []) ?_))))))
  refine RL.makeMap (good := goodI) rfl rfl rfl rfl (fun mp => ?_)
  refine RL.p rfl (RL.nil (NQ.seq (CW.seq (CW.seq (CW.rg (RL.p rfl (RL.lenS Try.runUnderlying23 rfl rfl rfl rfl (RL.p rfl (RL.nil (NQ.seq (CW.block ?_)))))))))))
  refine CW.genI (fun J hJ => ?_)
  have m2 : sls (oa.map fun b => ⟨b, 0, none⟩) 48 L.length (L.flatMap Sr.cells) ∈ J := hJ _ (by simp)
  clear hJ
  refine CW.loop (γ := Nat × List (Value × Value)) (fun g => g.1 ≤ L.length ∧ (∀ j < g.1, stepS L j = true) ∧ MpOk g.2 (L.take g.1)) (fun g => [(0, slO oa L.length ca), (3, .map (some mp)), (7, slO oa L.length ca), (8, .int .i64 (L.length : Int)), (9, .int .i64 (g.1 : Int))]) (fun _ => J) (fun g => [mapI mp goodI g.2]) (fun g => L.length - g.1) (0, []) ⟨Nat.zero_le _, fun j h => by omega, MpOk.nil L⟩ (.cons rfl (.cons rfl (.cons rfl (.cons rfl (.cons rfl .nil))))) (fun w h => h.rea (fun _ h => h) (by repeat (first | exact Rea.nil | (apply Rea.cons; (solve | (repeat (first | exact Del.here | apply Del.there))))))) ?_
  rintro ⟨i, c⟩ ⟨hi, hok, hmp⟩
  dsimp only at hi hok hmp ⊢
  refine CW.fact (p := oa = none → L.length = 0) (fun w hC e => sls_nil (hC.s.i _ m2) (by rw [e]; rfl)) (fun hpa => ?_)
  refine CW.seq (CW.rg (RL.p rfl (RL.nil (NQ.seq (CW.seq ?_)))))
  refine CW.cond rfl (fun hlt => ?_) (fun hlt => ?_)
  ·
    have hlt : i < L.length := by simp at hlt; omega
    cases oa with
    | none => exact absurd (hpa rfl) (by omega)
    | some ba =>
    have hx := List.getElem?_eq_getElem hlt
    generalize L[i] = s at hx
    have hs := hL s (List.mem_of_getElem? hx)
    have hsl := hLl s (List.mem_of_getElem? hx)
    have hlp : i - 1 < L.length := by omega
    have hp := List.getElem?_eq_getElem hlp
    generalize L[i - 1] = q at hp
    have fA : RdsN J ⟨ba, 0 + i * 48, none⟩ 48 s.cells := flat_rdsN (f := Sr.cells) m2 hx hLl
    have hcb := cnt_bd s.kd (L.take i)
    rw [List.length_take] at hcb
    refine CW.skip (NQ.seq (CW.seq (CW.block (CW.seq (CW.region (ef := [3, 5]) (bk := [5]) (RL.p rfl (RL.idxAt (j := i) Try.runUnderlying23 Try.sizeOf57 rfl rfl rfl rfl rfl rfl (hlt) (RL.loadSq Try.isAgg57 Try.sizeOf57 rfl rfl rfl rfl ?_))))))))
    refine RL.alloc Try.zeroValue57 rfl rfl rfl rfl rfl ?_
    intro b1
    refine RL.p rfl (RL.storeW Try.sizeOf57 rfl rfl rfl rfl rfl rfl rfl (sr_ones s) (by repeat (first | exact Upd.here | apply Upd.there)) hsl rfl ?_)
    refine RL.nil (NQ.seq (CW.seq (CW.seq (CW.freezeP (A := [cel b1 s.cells 57]) (B := [mapI mp goodI c]) (by repeat (first | exact Pick.nil | apply Pick.take | apply Pick.leave)) rfl ?_))))
    refine CW.genI (fun J2 hJ => ?_)
    have hJ2 : ∀ x ∈ J, x ∈ J2 := fun x hx => hJ x (by simp [hx])
    have mA : cel b1 s.cells 57 ∈ J2 := hJ _ (List.Mem.head _)
    have s0 : RdI J2 ⟨b1, 0 + 0, none⟩ (.int .i64 s.id) := ⟨fun _ => Rd.celI mA rfl⟩
    have s1 : RdI J2 ⟨b1, 0 + 1, none⟩ (.int .i64 s.kd) := ⟨fun _ => Rd.celI mA rfl⟩
    have sA : RdsN J2 ⟨b1, 0, none⟩ 48 s.cells := ⟨fun _ => Rds.allI mA, hsl⟩
    have fP : RdI J2 ⟨ba, 0 + (i - 1) * 48 + 0, none⟩ (.int .i64 q.id) := flat_rdI (f := Sr.cells) (hJ2 _ m2) hp hLl rfl
    clear fA hJ
    refine CW.regionD (Sq.of [0, 1, 2, 3, 4, 5, 6, 7, 8, 9, 10, 11, 12, 13, 14, 15, 16, 17]) [] [] [0, 1, 2, 3, 4, 5, 6, 7, 8, 9, 10, 11, 12, 13, 14, 15, 16, 17] mixed (by kernel_rfl) ?_
    refine RL.loadSTq Try.isAgg57 Try.sizeOf57 rfl rfl rfl rfl ?_
    refine RL.callTq (right_any s hs) Try.call74 rfl rfl rfl rfl ?_
    refine RL.p rfl (RL.p rfl ?_)
    apply RL.orB (d := 17) (dp := 31) (l' := (Sq.of [])) rfl (sK [0, 3, 5, 7, 8, 9] rfl)
    ·
      intro hb4 K4
      refine RL.p rfl (RL.p rfl (RL.p rfl ?_))
      apply RL.andB (d := 20) (dp := 30) (l' := (Sq.of [17])) rfl (sK [0, 3, 5, 7, 8, 9, 17] rfl)
      ·
        intro hb7 K7
        refine RL.fieldAddr fa_57_0 rfl rfl rfl rfl (RL.loadTq Try.isAgg3 rfl rfl rfl rfl ?_)
        refine RL.p rfl (RL.p rfl (RL.bx rfl (wrapV_i64 (by omega) (by omega)) ?_))
        refine RL.cast (d := 25) (v' := .int .i64 ((i - 1 : Nat) : Int)) rfl (by have h0 := of_decide_eq_true ‹decide ((i : Int) > 0) = true›; congr 1; omega) ?_
        refine RL.idxAt (j := i - 1) Try.runUnderlying23 Try.sizeOf57 rfl rfl rfl rfl rfl rfl hlp (RL.fieldAddr fa_57_0 rfl rfl rfl rfl (RL.loadTq Try.isAgg3 rfl rfl rfl rfl ?_))
        refine RL.p rfl (RL.p rfl ?_)
        exact K7 _ (.cons rfl (sK [0, 3, 5, 7, 8, 9, 17] rfl))
      ·
        intro hb7 K7
        refine RL.p rfl (RL.p rfl (RL.p rfl (RL.p rfl (RL.p rfl (RL.p rfl (RL.p rfl (RL.p rfl (RL.p rfl (RL.p rfl ?_)))))))))
        exact K7 _ (.cons rfl (sK [0, 3, 5, 7, 8, 9, 17] rfl))
      refine RL.p rfl ?_
      exact K4 _ (.cons rfl (sK [0, 3, 5, 7, 8, 9] rfl))
    ·
      intro hb4 K4
      refine RL.p rfl (RL.p rfl (RL.p rfl (RL.p rfl (RL.p rfl (RL.p rfl (RL.p rfl (RL.p rfl (RL.p rfl (RL.p rfl (RL.p rfl (RL.p rfl (RL.p rfl (RL.p rfl ?_)))))))))))))
      exact K4 _ (.cons rfl (sK [0, 3, 5, 7, 8, 9] rfl))
    refine RL.nil (NQ.seq ?_)
    refine CW.cond rfl (fun h2 => ?_) (fun h2 => ?_)
    ·
      refine CW.seq (CW.rg (RL.p rfl (RL.nil (NQ.seq (CW.ret (RQ.seq (RQ.block (RQ.seq (RQ.seq (RQ.block (RQ.seq ?_)))))))))))
      have hno : srcB L = false := by
        rw [Bool.eq_false_iff]
        intro h3
        simp only [srcB, Bool.and_eq_true] at h3
        have h4 := srsB_iff.1 h3.1.1 i
        rw [stepS_at hx] at h4
        simp at h4 h2
        rcases h2 with h2 | h2
        · rw [h4.1] at h2; cases h2
        · by_cases hi0 : 0 < i
          · rw [wasS_prev hp hi0] at h4; omega
          · omega
      exact RQ.post (res1 rfl rfl) (Split.none _) ⟨by rw [hno], rfl, rfl⟩
    ·
      have hst : stepS L i = true := by
        rw [stepS_at hx]
        simp at h2
        simp [h2]
        have := sok_id h2.1
        by_cases hi0 : 0 < i
        · rw [wasS_prev hp hi0]; omega
        · obtain rfl : i = 0 := by omega
          rw [wasS]; omega
      have hlk := hmp s.kd
      refine CW.skip (NQ.seq (CW.region (ef := [5]) (bk := [5]) (RL.p rfl (RL.fieldAddr fa_57_1 rfl rfl rfl rfl (RL.loadq Try.isAgg3 rfl rfl rfl rfl ?_)))))
      refine RL.lookup (key := .int .i64 s.kd) keyI Try.runUnderlying163 Try.zeroValue3 rfl rfl rfl rfl rfl ⟨s.kd, rfl⟩ (MapAt.own (by repeat (first | exact List.Mem.head _ | apply List.Mem.tail))) ?_
      refine RL.cast (d := 35) rfl hlk ?_
      refine RL.bx rfl (wrapV_i64 (by omega) (by omega)) ?_
      refine RL.mapUpdate keyI Try.runUnderlying163 rfl rfl rfl rfl rfl rfl rfl ⟨s.kd, rfl⟩ (by repeat (first | exact Upd.here | apply Upd.there)) ?_
      refine RL.nil (NQ.block (NQ.seq (CW.ok [0, 3, 7, 8, 9] rfl (CW.rg (RL.bx rfl (wrapV_i64 (by omega) (by omega)) ?_)))))
      refine RL.p rfl (RL.nil ?_)
      refine NQ.round (g := (i, c)) (i + 1, _) ⟨hlt, fun j hj => ?_, hmp.snoc hx⟩ (by show L.length - (i + 1) < L.length - i; omega) (.cons rfl (.cons rfl (.cons rfl (.cons rfl (.cons rfl .nil))))) (fun w h => h.rea hJ2 (by repeat (first | exact Rea.nil | (apply Rea.cons; (solve | (repeat (first | exact Del.here | apply Del.there)))))))
      rcases Nat.lt_succ_iff_lt_or_eq.1 hj with hj | rfl
      · exact hok j hj
      · exact hst
  ·
    have hin : i = L.length := by simp at hlt; omega
    subst hin
    rw [List.take_length] at hmp
    have h1 := hmp 1
    have h5 := hmp 5
    have h8 := hmp 8
    refine CW.exit (XQ.seq (XQ.seq (XQ.hit (NQ.seq (CW.seq (CW.rg (RL.p rfl (RL.lenS Try.runUnderlying23 rfl rfl rfl rfl (RL.p rfl (RL.p rfl ?_))))))))))
    apply RL.andB (d := 41) (dp := 45) (l' := (Sq.of [8, 9, 10, 11, 12, 13, 14, 15, 16, 17, 18])) rfl (sK [3] rfl)
    ·
      intro hb4 K4
      refine RL.p rfl (RL.lookup (key := .int .i64 1) keyI Try.runUnderlying163 Try.zeroValue3 rfl rfl rfl rfl rfl ⟨1, rfl⟩ (MapAt.own (by repeat (first | exact List.Mem.head _ | apply List.Mem.tail))) ?_)
      refine RL.cast (d := 43) rfl h1 ?_
      refine RL.p rfl (RL.p rfl ?_)
      exact K4 _ (.cons rfl (sK [3] rfl))
    ·
      intro hb4 K4
      refine RL.p rfl (RL.p rfl (RL.p rfl (RL.p rfl ?_)))
      exact K4 _ (.cons rfl (sK [3] rfl))
    refine RL.p rfl ?_
    apply RL.andB (d := 46) (dp := 50) (l' := (Sq.of [13, 14, 15, 16, 17, 18])) rfl (sK [3] rfl)
    ·
      intro hb9 K9
      refine RL.p rfl (RL.lookup (key := .int .i64 5) keyI Try.runUnderlying163 Try.zeroValue3 rfl rfl rfl rfl rfl ⟨5, rfl⟩ (MapAt.own (by repeat (first | exact List.Mem.head _ | apply List.Mem.tail))) ?_)
      refine RL.cast (d := 48) rfl h5 ?_
      refine RL.p rfl (RL.p rfl ?_)
      exact K9 _ (.cons rfl (sK [3] rfl))
    ·
      intro hb9 K9
      refine RL.p rfl (RL.p rfl (RL.p rfl (RL.p rfl ?_)))
      exact K9 _ (.cons rfl (sK [3] rfl))
    refine RL.p rfl ?_
    apply RL.andB (d := 51) (dp := 55) (l' := (Sq.of [18])) rfl .nil
    ·
      intro hb14 K14
      refine RL.p rfl (RL.lookup (key := .int .i64 8) keyI Try.runUnderlying163 Try.zeroValue3 rfl rfl rfl rfl rfl ⟨8, rfl⟩ (MapAt.own (by repeat (first | exact List.Mem.head _ | apply List.Mem.tail))) ?_)
      refine RL.cast (d := 53) rfl h8 ?_
      refine RL.p rfl (RL.p rfl ?_)
      exact K14 _ (.cons rfl .nil)
    ·
      intro hb14 K14
      refine RL.p rfl (RL.p rfl (RL.p rfl (RL.p rfl ?_)))
      exact K14 _ (.cons rfl .nil)
    refine RL.p rfl (RL.nil (NQ.seq (CW.ret ?_)))
    refine RQ.post (res1 rfl rfl) (Split.none _) ⟨?_, rfl, rfl⟩
    congr 1
    rw [srcB, srsB_of hok, manyB, Bool.eq_iff_iff]
    simp
    omega
end Go.Proofs.Ytbdnebedmdoehaa
