import Derived.Test.YtbdnebedmdoehaaU15
namespace Go.Proofs.Ytbdnebedmdoehaa
open Go.PK
/-! ### Contains; the plain configuration -/
def kindL : List Int := [1, 2, 3, 4, 5, 8]
def kindN (i : Nat) : Int := kindL.getD i 0
def plainL (seed : B8) (gone : List Int) (i : Nat) : List Sr := ((List.range i).filter fun j : Nat => !gone.contains (j : Int)).map fun j : Nat => plainS seed (j : Int) (kindN j)
def plainC (seed : B8) (gone : List Int) : Cf := ⟨0, 0, 42949672960, 4194304, ⟨0, 100, 2, 20⟩, List.replicate 32 0, 5, 500, 100, 64, plainL seed gone 6⟩
theorem plainL_yes {seed : B8} {gone : List Int} {i : Nat} (h : gone.contains (i : Int) = true) : plainL seed gone (i + 1) = plainL seed gone i := by
  have h' : (i : Int) ∈ gone := by simpa using h
  simp [plainL, List.range_succ, List.filter_append, h']
theorem plainL_no {seed : B8} {gone : List Int} {i : Nat} (h : gone.contains (i : Int) = false) : plainL seed gone (i + 1) = plainL seed gone i ++ [plainS seed (i : Int) (kindN i)] := by
  have h' : ¬ (i : Int) ∈ gone := by simpa using h
  simp [plainL, List.range_succ, List.filter_append, h']
theorem plainL_len (seed : B8) (gone : List Int) (i : Nat) : (plainL seed gone i).length ≤ i := by
  rw [plainL, List.length_map]; exact Nat.le_trans (List.length_filter_le _ _) (by simp)
theorem plainS_rt (seed : B8) (id kd : Int) : (plainS seed id kd).rt = rootB seed id := by
  unfold plainS; split
  · split <;> rfl
  · rfl
theorem plainS_len (seed : B8) (id kd : Int) : (plainS seed id kd).cells.length = 48 := sr_len (by rw [plainS_rt]; exact rootB_len _ _)
def idxI (n : Int) (l : List Int) : Int := match l.findIdx? (fun x => n == x) with
  | some i => (i : Int)
  | none => -1
theorem idxI_no {n : Int} {l : List Int} (h : ∀ j < l.length, ∀ x, l[j]? = some x → (n == x) = false) : idxI n l = -1 := by
  rw [idxI, List.findIdx?_eq_none_iff.2 (fun x hx => by
    obtain ⟨j, hj, rfl⟩ := List.mem_iff_getElem.1 hx
    exact h j hj _ (List.getElem?_eq_getElem hj))]
theorem idxI_yes {n : Int} {l : List Int} {i : Nat} {x : Int} (hx : l[i]? = some x) (hp : (n == x) = true) (h : ∀ j < i, ∀ x, l[j]? = some x → (n == x) = false) : idxI n l = i := by
  obtain ⟨hlt, rfl⟩ := List.getElem?_eq_some_iff.1 hx
  rw [idxI, List.findIdx?_eq_some_iff_getElem.2 ⟨hlt, hp, fun j hj => by
    have := h j hj _ (List.getElem?_eq_getElem (by omega)); rw [this]; decide⟩]
theorem idxI_has (n : Int) (l : List Int) : decide (idxI n l ≥ 0) = l.contains n := by
  rw [Bool.eq_iff_iff, decide_eq_true_iff, List.contains_iff_mem, idxI]
  cases h : l.findIdx? (fun x => n == x) with
  | none =>
    have := List.findIdx?_eq_none_iff.1 h
    simp only
    constructor
    · intro h; omega
    · intro hm; have := this n hm; simp at this
  | some i =>
    obtain ⟨hlt, hp, -⟩ := List.findIdx?_eq_some_iff_getElem.1 h
    simp only
    refine ⟨fun _ => ?_, fun _ => by omega⟩
    have : n = l[i] := by simpa using hp
    rw [this]; exact List.getElem_mem _
theorem index_int (p : Option Addr) (c m : Nat) (l : List Int) (n : Int) (hm : l.length = m) (hb : m ≤ 1000000) : Spc Try.prog 72 #[.slice p m c, .int .i64 n] [sls p 1 m (ints l)] [] (Is (.int .i64 (idxI n l))) := by
  subst hm
  refine Spc.enter Try.func72 rfl rfl rfl (fun w0 hw0 => ?_)
  refine CW.seq (CW.rg (RL.p rfl (RL.nil (NQ.seq (CW.seq (CW.seq (CW.rg (RL.p rfl (RL.lenS Try.runUnderlying22 rfl rfl rfl rfl (RL.p rfl (RL.nil (NQ.seq (CW.block ?_)))))))))))))
  refine CW.genI (fun J hJ => ?_)
  have m2 : sls p 1 l.length (ints l) ∈ J := hJ _ (by simp)
  clear hJ
  refine CW.loop (γ := Nat) (fun i => i ≤ l.length ∧ (∀ j < i, ∀ x, l[j]? = some x → (n == x) = false)) (fun i => [(0, .slice p l.length c), (1, .int .i64 n), (7, .int .i64 (l.length : Int)), (8, .int .i64 (i : Int))]) (fun _ => J) (fun _ => []) (fun i => l.length - i) 0 ⟨Nat.zero_le _, fun j h => by omega⟩ (.cons rfl (.cons rfl (.cons rfl (.cons rfl .nil)))) (fun w h => h.rea (fun _ h => h) (by repeat (first | exact Rea.nil | (apply Rea.cons; (solve | (repeat (first | exact Del.here | apply Del.there))))))) ?_
  rintro i ⟨hi, hok⟩
  refine CW.fact (p := p = none → l.length = 0) (fun w hC e => sls_nil (hC.s.i _ m2) e) (fun hpa => ?_)
  refine CW.seq (CW.rg (RL.p rfl (RL.nil (NQ.seq (CW.seq ?_)))))
  refine CW.cond rfl (fun hlt => ?_) (fun hlt => ?_)
  ·
    have hlt : i < l.length := by simp at hlt; omega
    cases p with
    | none => exact absurd (hpa rfl) (by omega)
    | some a =>
    have hx := List.getElem?_eq_getElem hlt
    generalize l[i] = x at hx
    have f1 := RdI.sls m2 hx
    refine CW.skip (NQ.seq (CW.seq (CW.block (CW.seq (CW.rg (RL.p rfl (RL.p rfl (RL.nil (NQ.seq (CW.seq (CW.rg (RL.p rfl (RL.p rfl ?_)))))))))))))
    refine RL.p rfl ?_
    first | refine RL.idxAt (j := i) Try.runUnderlying22 Try.sizeOf3 rfl rfl rfl rfl rfl rfl (hlt) ?_ | refine RL.idx (j := i) Try.runUnderlying22 Try.sizeOf3 rfl rfl rfl rfl rfl rfl (hlt) ?_
    refine RL.loadq Try.isAgg3 rfl rfl rfl rfl ?_
    refine RL.p rfl (RL.nil (NQ.seq (CW.ok [0, 1, 5, 7, 8, 16] rfl ?_)))
    refine CW.cond rfl (fun hp => ?_) (fun hp => ?_)
    ·
      refine CW.seq (CW.rg (RL.p rfl (RL.p rfl (RL.nil (NQ.seq (CW.ret (RQ.block (RQ.seq (RQ.seq (RQ.block (RQ.seq ?_)))))))))))
      exact RQ.post (res1 rfl rfl) (Split.none _) ⟨by rw [idxI_yes hx hp hok], rfl, rfl⟩
    ·
      refine CW.skip (NQ.block (NQ.seq (CW.rg (RL.bx rfl (wrapV_i64 (by omega) (by omega)) ?_))))
      refine RL.p rfl (RL.nil ?_)
      refine NQ.round (g := i) (i + 1) ⟨hlt, fun j hj y hy => ?_⟩ (by show l.length - (i + 1) < l.length - i; omega) (.cons rfl (.cons rfl (.cons rfl (.cons rfl .nil)))) (fun w h => h.rea (fun _ h => h) (by repeat (first | exact Rea.nil | (apply Rea.cons; (solve | (repeat (first | exact Del.here | apply Del.there)))))))
      rcases Nat.lt_succ_iff_lt_or_eq.1 hj with hj | rfl
      · exact hok j hj y hy
      · rw [hx] at hy; cases hy; exact hp
  ·
    refine CW.exit (XQ.seq (XQ.seq (XQ.hit (NQ.seq (CW.seq (CW.rg (RL.p rfl (RL.nil (NQ.seq (CW.ret ?_))))))))))
    have hin : i = l.length := by simp at hlt; omega
    subst hin
    exact RQ.post (res1 rfl rfl) (Split.none _) ⟨by rw [idxI_no hok], rfl, rfl⟩
theorem cont_int (p : Option Addr) (c m : Nat) (l : List Int) (n : Int) (hm : l.length = m) (hb : m ≤ 1000000) : Spc Try.prog 39 #[.slice p m c, .int .i64 n] [sls p 1 m (ints l)] [] (Is (.bool (l.contains n))) := by
  refine Spc.enter Try.func39 rfl rfl rfl (fun w0 hw0 => ?_)
  refine CW.seq (CW.rg (RL.p rfl (RL.nil (NQ.seq (CW.seq (CW.rg (RL.p rfl (RL.p rfl (RL.callvq (index_int p c m l n hm hb) Try.call72 rfl rfl rfl rfl ?_)))))))))
  refine RL.p rfl (RL.p rfl (RL.nil (NQ.seq (CW.ok [4] rfl (CW.ret ?_)))))
  exact RQ.post (res1 rfl rfl) (Split.none _) ⟨by rw [← idxI_has], rfl, rfl⟩
theorem hasint_any (p : Option Addr) (c m : Nat) (l : List Int) (n : Int) (hm : l.length = m) (hb : m ≤ 1000000) : Spc Try.prog 10 #[.slice p m c, .int .i64 n] [sls p 1 m (ints l)] [] (Is (.bool (l.contains n))) := by
  subst hm
  refine Spc.enter Try.func10 rfl rfl rfl (fun w0 hw0 => ?_)
  refine CW.seq (CW.rg (RL.p rfl (RL.nil (NQ.seq (CW.seq (CW.seq (CW.rg (RL.p rfl (RL.nil (NQ.seq (CW.block ?_)))))))))))
  refine CW.genI (fun J hJ => ?_)
  have m2 : sls p 1 l.length (ints l) ∈ J := hJ _ (by simp)
  clear hJ
  refine CW.loop (γ := Nat) (fun i => i ≤ l.length ∧ (∀ j < i, ∀ x, l[j]? = some x → x ≠ n)) (fun i => [(0, .slice p l.length c), (1, .int .i64 n), (5, .int .i64 (i : Int))]) (fun _ => J) (fun _ => []) (fun i => l.length - i) 0 ⟨Nat.zero_le _, fun j h => by omega⟩ (.cons rfl (.cons rfl (.cons rfl .nil))) (fun w h => h.rea (fun _ h => h) (by repeat (first | exact Rea.nil | (apply Rea.cons; (solve | (repeat (first | exact Del.here | apply Del.there))))))) ?_
  rintro i ⟨hi, hok⟩
  refine CW.fact (p := p = none → l.length = 0) (fun w hC e => sls_nil (hC.s.i _ m2) e) (fun hpa => ?_)
  refine CW.seq (CW.seq (CW.rg (RL.p rfl (RL.p rfl (RL.lenS Try.runUnderlying22 rfl rfl rfl rfl (RL.p rfl (RL.nil (NQ.seq ?_))))))))
  refine CW.cond rfl (fun hlt => ?_) (fun hlt => ?_)
  ·
    have hlt : i < l.length := by simp at hlt; omega
    cases p with
    | none => exact absurd (hpa rfl) (by omega)
    | some a =>
    have hx := List.getElem?_eq_getElem hlt
    generalize l[i] = x at hx
    have f1 := RdI.sls m2 hx
    refine CW.skip (NQ.seq (CW.seq (CW.block (CW.seq (CW.rg (RL.p rfl (RL.p rfl ?_)))))))
    first | refine RL.idxAt (j := i) Try.runUnderlying22 Try.sizeOf3 rfl rfl rfl rfl rfl rfl (hlt) ?_ | refine RL.idx (j := i) Try.runUnderlying22 Try.sizeOf3 rfl rfl rfl rfl rfl rfl (hlt) ?_
    refine RL.loadq Try.isAgg3 rfl rfl rfl rfl ?_
    refine RL.p rfl (RL.p rfl (RL.nil (NQ.seq (CW.ok [0, 1, 5, 17] rfl ?_))))
    refine CW.cond rfl (fun hp => ?_) (fun hp => ?_)
    ·
      refine CW.seq (CW.rg (RL.p rfl (RL.nil (NQ.seq (CW.ret (RQ.block (RQ.seq (RQ.seq (RQ.block (RQ.seq ?_))))))))))
      have hh : l.contains n = true := by
        have : x = n := by simpa using hp
        subst this; simpa using List.mem_of_getElem? hx
      exact RQ.post (res1 rfl rfl) (Split.none _) ⟨by rw [hh], rfl, rfl⟩
    ·
      refine CW.skip (NQ.block (NQ.seq (CW.rg (RL.p rfl (RL.bx rfl (wrapV_i64 (by omega) (by omega)) ?_)))))
      refine RL.p rfl (RL.nil ?_)
      refine NQ.round (g := i) (i + 1) ⟨hlt, fun j hj y hy => ?_⟩ (by show l.length - (i + 1) < l.length - i; omega) (.cons rfl (.cons rfl (.cons rfl .nil))) (fun w h => h.rea (fun _ h => h) (by repeat (first | exact Rea.nil | (apply Rea.cons; (solve | (repeat (first | exact Del.here | apply Del.there)))))))
      rcases Nat.lt_succ_iff_lt_or_eq.1 hj with hj | rfl
      · exact hok j hj y hy
      · rw [hx] at hy; cases hy; simpa using hp
  ·
    refine CW.exit (XQ.seq (XQ.seq (XQ.hit (NQ.seq (CW.ok [] rfl (CW.seq (CW.rg (RL.p rfl (RL.nil (NQ.seq (CW.ret ?_)))))))))))
    have hin : i = l.length := by simp at hlt; omega
    subst hin
    have hh : l.contains n = false := by
      rw [Bool.eq_false_iff]
      intro h
      obtain ⟨j, hj, e⟩ := List.mem_iff_getElem.1 (List.contains_iff_mem.1 h)
      exact hok j hj _ (List.getElem?_eq_getElem hj) e
    exact RQ.post (res1 rfl rfl) (Split.none _) ⟨by rw [hh], rfl, rfl⟩
theorem splain_any (seed : B8) (p : Option Addr) (c m : Nat) (gone : List Int) (hm : gone.length = m) (hb : m ≤ 1000000) : Spc Try.prog 6 #[U8 seed, .slice p m c] [sls p 1 m (ints gone)] [] (CfR 57 (plainC seed gone)) := by
  subst hm
  have hcm : (plainC seed gone).cm.length = 32 := rfl
  have hl45 := fun sl => cf_len hcm sl
  refine Spc.enter Try.func6 rfl rfl rfl (fun w0 hw0 => ?_)
  refine CW.seq (CW.region (ef := [0]) (bk := []) (RL.alloc Try.zeroValue33 rfl rfl rfl rfl rfl ?_))
  intro b1
  refine RL.nil (NQ.seq (CW.seq (CW.region (ef := [3, 4]) (bk := [4]) (RL.buildA [_, _, _] Try.zeroValue26 Try.runUnderlying26 Try.sizeOf24 rfl rfl rfl rfl rfl (RL.buildS [_, _, _, _] Try.zeroValue28 pl_28 rfl rfl rfl rfl rfl (RL.buildS ((plainC seed gone).cells (.slice none 0 0)) Try.zeroValue33 pl_33 rfl rfl rfl rfl rfl (RL.alloc Try.zeroValue33 rfl rfl rfl rfl rfl ?_)))))))
  intro b2
  refine RL.storeW Try.sizeOf33 rfl rfl rfl rfl rfl rfl rfl (cf_ones _ rfl) (by repeat (first | exact Upd.here | apply Upd.there)) (hl45 _) rfl ?_
  refine RL.nil (NQ.seq (CW.seq (CW.seq (CW.region (ef := [0]) (bk := []) (RL.buildSlice [_, _, _, _, _, _] Try.runUnderlying22 Try.sizeOf3 Try.zeroValue3 rfl rfl (by decide) (by decide) rfl rfl rfl rfl rfl rfl ?_)))))
  intro b3
  refine RL.lenS Try.runUnderlying22 rfl rfl rfl rfl (RL.p rfl (RL.nil (NQ.seq (CW.block (CW.freezeP (A := [cel b3 [.int .i64 1, .int .i64 2, .int .i64 3, .int .i64 4, .int .i64 5, .int .i64 8] 3]) (B := [cel b2 ((plainC seed gone).cells (.slice none 0 0)) 33, cel b1 (zeroC.cells (.slice none 0 0)) 33]) (by repeat (first | exact Pick.nil | apply Pick.take | apply Pick.leave)) rfl ?_)))))
  refine CW.genI (fun J hJ => ?_)
  have m2 : sls p 1 gone.length (ints gone) ∈ J := hJ _ (List.Mem.tail _ (List.Mem.head _))
  have m3 : cel b3 [.int .i64 1, .int .i64 2, .int .i64 3, .int .i64 4, .int .i64 5, .int .i64 8] 3 ∈ J := hJ _ (List.Mem.head _)
  clear hJ
  refine CW.ownNone (e := 57) 48 ?_
  refine CW.loop (γ := Nat × Option Nat × Nat × Nat) (fun g => g.1 ≤ 6 ∧ g.2.2.2 = (plainL seed gone g.1).length) (fun g => [(0, U8 seed), (1, .slice p gone.length c), (4, .pointer (some ⟨b1, 0, none⟩)), (5, .pointer (some ⟨b2, 0, none⟩)), (11, .slice (some ⟨b3, 0, none⟩) 6 6), (12, .int .i64 6), (13, .int .i64 (g.1 : Int))]) (fun _ => J)
    (fun g => [cel b2 ((plainC seed gone).cells (slO g.2.1 g.2.2.2 g.2.2.1)) 33, own g.2.1 g.2.2.1 57 48 g.2.2.2 ((plainL seed gone g.1).flatMap Sr.cells), cel b1 (zeroC.cells (.slice none 0 0)) 33]) (fun g => 6 - g.1) (0, none, 0, 0) ⟨Nat.zero_le _, rfl⟩ (.cons rfl (.cons rfl (.cons rfl (.cons rfl (.cons rfl (.cons rfl (.cons rfl .nil))))))) (fun w h => h.rea (fun _ h => h) (by repeat (first | exact Rea.nil | (apply Rea.cons; (solve | (repeat (first | exact Del.here | apply Del.there))))))) ?_
  rintro ⟨i, ob, cp, n⟩ ⟨hi, hn⟩
  dsimp only at hi hn ⊢
  have hnb : n ≤ 6 := by rw [hn]; exact Nat.le_trans (plainL_len _ _ _) hi
  refine CW.seq (CW.rg (RL.p rfl (RL.nil (NQ.seq (CW.seq ?_)))))
  refine CW.cond rfl (fun hlt => ?_) (fun hlt => ?_)
  ·
    have hlt : i < 6 := by simp at hlt; omega
    have hsl := plainS_len seed (i : Int) (kindN i)
    have hk : ([.int .i64 1, .int .i64 2, .int .i64 3, .int .i64 4, .int .i64 5, .int .i64 8] : List Value)[0 + i * 1]? = some (.int .i64 (kindN i)) := by
      match i, hlt with
      | 0, _ => rfl
      | 1, _ => rfl
      | 2, _ => rfl
      | 3, _ => rfl
      | 4, _ => rfl
      | 5, _ => rfl
    have fK : RdI J ⟨b3, 0 + i * 1, none⟩ (.int .i64 (kindN i)) := ⟨fun _ => Rd.getI m3 hk⟩
    refine CW.skip (NQ.seq (CW.seq (CW.block (CW.seq (CW.rg (RL.p rfl ?_))))))
    first | refine RL.idxAt (j := i) Try.runUnderlying22 Try.sizeOf3 rfl rfl rfl rfl rfl rfl (hlt) ?_ | refine RL.idx (j := i) Try.runUnderlying22 Try.sizeOf3 rfl rfl rfl rfl rfl rfl (hlt) ?_
    refine RL.loadq Try.isAgg3 rfl rfl rfl rfl ?_
    refine RL.p rfl (RL.p rfl (RL.nil (NQ.seq (CW.seq (CW.rg (RL.p rfl (RL.p rfl (RL.callv (cont_int p c _ gone (i : Int) rfl hb) Try.call39 rfl rfl rfl rfl (.inI m2 .nil) (RL.p rfl (RL.nil (NQ.seq (CW.ok [0, 1, 4, 5, 6, 7, 11, 12, 13, 21] rfl ?_))))))))))))
    refine CW.cond rfl (fun hg => ?_) (fun hg => ?_)
    ·
      have hg' : gone.contains (i : Int) = false := by simpa using hg
      have hsn := plainL_no (seed := seed) hg'
      refine CW.regionD (Sq.of [0, 1, 2, 3, 4, 5, 6, 7, 8, 9]) [6, 7, 9] [7, 9] [0, 2, 3, 4, 5, 8] mixed (by kernel_rfl) ?_
      first | refine RL.fieldAddr fa_33_0 rfl rfl rfl rfl ?_ | refine RL.fieldAddrG fa_33_0 rfl rfl rfl rfl ?_
      refine RL.load Try.isAgg23 rfl rfl rfl rfl (Rd.cel (by repeat (first | exact List.Mem.head _ | apply List.Mem.tail)) rfl) ?_
      refine RL.p rfl (RL.p rfl (RL.p rfl (RL.callTq (plain_any seed (i : Int) (kindN i)) Try.call40 rfl rfl rfl rfl ?_)))
      refine RL.buildSlice (plainS seed (i : Int) (kindN i)).cells Try.runUnderlying23 Try.sizeOf57 Try.zeroValue57 rfl rfl (by decide) (by decide) rfl rfl rfl rfl rfl (fill_one48 hsl rfl) ?_
      intro b4
      refine RL.appendA el_23 rfl rfl rfl rfl rfl rfl rfl (by first | exact ⟨(.take (Pick.none _)), rfl⟩ | exact ⟨(.leave (.take (Pick.none _))), rfl⟩ | exact ⟨(.leave (.leave (.take (Pick.none _)))), rfl⟩ | exact ⟨(.leave (.leave (.leave (.take (Pick.none _))))), rfl⟩ | exact ⟨(.leave (.leave (.leave (.leave (.take (Pick.none _)))))), rfl⟩ | exact ⟨(.leave (.leave (.leave (.leave (.leave (.take (Pick.none _))))))), rfl⟩ | exact ⟨(.leave (.leave (.leave (.leave (.leave (.leave (.take (Pick.none _)))))))), rfl⟩ | exact ⟨(.leave (.leave (.leave (.leave (.leave (.leave (.leave (.take (Pick.none _))))))))), rfl⟩ | exact ⟨(.leave (.leave (.leave (.leave (.leave (.leave (.leave (.leave (.take (Pick.none _)))))))))), rfl⟩ | exact ⟨(.leave (.leave (.leave (.leave (.leave (.leave (.leave (.leave (.leave (.take (Pick.none _))))))))))), rfl⟩) (Src.cel (cs := (plainS seed (i : Int) (kindN i)).cells) (by repeat (first | exact List.Mem.head _ | apply List.Mem.tail)) hsl) (ones_spec (sr_ones _)) (by first | omega | (simp only [maxLen]; omega)) (by first | omega | (simp only [maxLen]; omega)) ?_
      intro ob1 cap1 ho1
      first | refine RL.fieldAddr fa_33_0 rfl rfl rfl rfl ?_ | refine RL.fieldAddrG fa_33_0 rfl rfl rfl rfl ?_
      refine RL.storeX (vs := [_]) cf_set Try.sizeOf23 rfl rfl rfl rfl rfl rfl rfl rfl (by repeat (first | exact Upd.here | apply Upd.there)) (by rw [hl45]; show 0 + 0 + 1 ≤ 45; decide) ?_
      refine RL.nil (NQ.block (NQ.seq (CW.ok [0, 1, 4, 5, 11, 12, 13] rfl (CW.rg (RL.bx rfl (wrapV_i64 (by omega) (by omega)) ?_)))))
      refine RL.p rfl (RL.nil ?_)
      refine NQ.round (g := (i, ob, cp, n)) (i + 1, ob1, cap1, n + 1) ⟨hlt, by rw [hsn]; simp [hn]⟩ (by show 6 - (i + 1) < 6 - i; omega) (.cons rfl (.cons rfl (.cons rfl (.cons rfl (.cons rfl (.cons rfl (.cons rfl .nil))))))) (fun w h => h.rea (H' := [cel b2 ((plainC seed gone).cells (slO ob1 (n + 1) cap1)) 33, own ob1 cap1 57 48 (n + 1) ((plainL seed gone (i + 1)).flatMap Sr.cells), cel b1 (zeroC.cells (.slice none 0 0)) 33]) (fun _ h => h) (by rw [hsn, List.flatMap_append, List.flatMap_cons, List.flatMap_nil, List.append_nil]; exact (by repeat (first | exact Rea.nil | (apply Rea.cons; (solve | (repeat (first | exact Del.here | apply Del.there))))))))
    ·
      refine CW.skip (NQ.block (NQ.seq (CW.rg (RL.bx rfl (wrapV_i64 (by omega) (by omega)) ?_))))
      refine RL.p rfl (RL.nil ?_)
      have hg' : gone.contains (i : Int) = true := by simpa using hg
      have hsn := plainL_yes (seed := seed) hg'
      refine NQ.round (g := (i, ob, cp, n)) (i + 1, ob, cp, n) ⟨hlt, by rw [hsn, hn]⟩ (by show 6 - (i + 1) < 6 - i; omega) (.cons rfl (.cons rfl (.cons rfl (.cons rfl (.cons rfl (.cons rfl (.cons rfl .nil))))))) (fun w h => by rw [hsn]; exact h.rea (fun _ h => h) (by repeat (first | exact Rea.nil | (apply Rea.cons; (solve | (repeat (first | exact Del.here | apply Del.there)))))))
  ·
    have hin : i = 6 := by simp at hlt; omega
    subst hin
    refine CW.exit (XQ.seq (XQ.seq (XQ.hit (NQ.seq (CW.ok [4, 5] rfl (CW.seq (CW.region (ef := [1]) (bk := [1]) (RL.loadW Try.isAgg33 Try.sizeOf33 rfl rfl rfl rfl (by repeat (first | exact List.Mem.head _ | apply List.Mem.tail)) (hl45 _) ?_))))))))
    refine RL.storeW Try.sizeOf33 rfl rfl rfl rfl rfl rfl rfl (cf_ones _ rfl) (by repeat (first | exact Upd.here | apply Upd.there)) (hl45 _) rfl ?_
    refine RL.nil (NQ.seq (CW.ret ?_))
    subst hn
    refine RQ.rea (fun _ h => h) (H' := [own ob cp 57 48 (plainC seed gone).L.length ((plainC seed gone).L.flatMap Sr.cells), cel b1 ((plainC seed gone).cells (slO ob (plainC seed gone).L.length cp)) 33]) (by repeat (first | exact Rea.nil | (apply Rea.cons; (solve | (repeat (first | exact Del.here | apply Del.there)))))) ?_
    exact RQ.post (resW rfl rfl Try.isAgg33 Try.sizeOf33 (by repeat (first | exact List.Mem.head _ | apply List.Mem.tail)) (hl45 _)) (.keep (Split.none _)) ⟨ob, cp, rfl, rfl, rfl⟩
end Go.Proofs.Ytbdnebedmdoehaa
