import Derived.Test.YtkkfdoippibfkaaGreatKB
namespace Go.Proofs.YtkkfdoippibfkaaGreat
open Go.PK

/-- How many sources come ahead of one. -/
def insP (R : List One) (s : Int) : Nat := (R.takeWhile fun o => decide ((o.s : Int) < s)).length
theorem insP_le (R : List One) (s : Int) : insP R s ≤ R.length := by
  have := (List.takeWhile_prefix (p := fun o : One => decide ((o.s : Int) < s)) (l := R)).length_le
  exact this
def rputR (R : List One) (s : Int) (k : List B8) : List One := R.take (insP R s) ++ (⟨s.toNat, k, 1, -1, 0⟩ :: R.drop (insP R s))
theorem insP_is {s : Int} : ∀ {R : List One} {i : Nat}, i ≤ R.length → (∀ (j : Nat) (o : One), j < i → R[j]? = some o → (o.s : Int) < s) → (∀ o, R[i]? = some o → ¬ (o.s : Int) < s) → insP R s = i
  | [], i, hi, _, _ => by simp at hi; subst hi; rfl
  | a :: R, 0, _, _, h2 => by
    have := h2 a rfl
    simp [insP, this]
  | a :: R, i + 1, hi, h1, h2 => by
    have ha := h1 0 a (by omega) rfl
    have ih := insP_is (R := R) (i := i) (by simpa using hi) (fun j o hj hjo => h1 (j + 1) o (by omega) (by simpa using hjo)) (fun o ho => h2 o (by simpa using ho))
    rw [insP] at ih
    simp [insP, ha, ih]
theorem rcs_len {R : List One} (h : ROk R) : (rcs R).length = R.length * 35 := length_flat (rc_row h)
theorem ROk.take {R : List One} (h : ROk R) (i : Nat) : ROk (R.take i) := fun o ho => h o (List.mem_of_mem_take ho)
theorem rcs_cut {R : List One} (h : ROk R) {i : Nat} (hi : i ≤ R.length) : (rcs R).take (i * 35) = rcs (R.take i) ∧ (rcs R).drop (i * 35) = rcs (R.drop i) := by
  have hl : (rcs (R.take i)).length = i * 35 := by rw [rcs_len (h.take i), List.length_take, Nat.min_eq_left hi]
  have he : rcs R = rcs (R.take i) ++ rcs (R.drop i) := by rw [← rcs_app, List.take_append_drop]
  rw [he]
  exact ⟨List.take_left' hl, List.drop_left' hl⟩
theorem rc_src1 {I H : List It} {R : List One} {ob : Option Nat} {cp i : Nat} {e : TypeId} (h : ROk R) (hi : i ≤ R.length) (hc : R.length ≤ cp) (hm : own ob cp e 35 R.length (rcs R) ∈ H) :
    Src I H (if cp = 0 then ob.map (fun b => ⟨b, 0, none⟩) else (ob.map (fun b => (⟨b, 0, none⟩ : Addr))).map (·.add (0 * 35))) (i - 0) 35 (rcs (R.take i)) := by
  have := Src.sub (lo := 0) (hi := i) (cap := cp) (Src.own (I := I) hm) (by omega) hi (by omega)
  rw [Nat.zero_mul, List.drop_zero, Nat.sub_zero, (rcs_cut h hi).1] at this
  simpa using this
theorem rc_src2 {I H : List It} {R : List One} {ob : Option Nat} {cp i : Nat} {e : TypeId} (h : ROk R) (hi : i ≤ R.length) (hc : R.length ≤ cp) (hm : own ob cp e 35 R.length (rcs R) ∈ H) :
    Src I H (if cp = i then ob.map (fun b => ⟨b, 0, none⟩) else (ob.map (fun b => (⟨b, 0, none⟩ : Addr))).map (·.add (i * 35))) (R.length - i) 35 (rcs (R.drop i)) := by
  have := Src.sub (lo := i) (hi := R.length) (cap := cp) (Src.own (I := I) hm) hi (Nat.le_refl _) (by omega)
  rw [(rcs_cut h hi).2, List.take_of_length_le (by rw [rcs_len (fun o ho => h o (List.mem_of_mem_drop ho)), List.length_drop]; exact Nat.le_refl _)] at this
  exact this
theorem ones_rcs (R : List One) : ∀ u ∈ rcs R, u.oneCell' = true := fun u hu => by
  obtain ⟨o, -, ho⟩ := List.mem_flatMap.1 hu
  simp only [One.rc, List.mem_cons, List.mem_append, List.mem_map, List.not_mem_nil, or_false] at ho
  rcases ho with rfl | ⟨b, -, rfl⟩ | rfl | rfl <;> rfl
theorem ones_rc (o : One) : ∀ u ∈ o.rc, u.oneCell' = true := fun u hu => ones_rcs [o] u (by simpa [rcs] using hu)
theorem fill_rc {k : List B8} {n : Nat} (h : k.length = 32) {places : Array (Nat × Nat)} (hp : places = #[(0, 1), (1, 32), (33, 1), (34, 1)]) :
    fillL (places[·]?) (.int .i64 0 :: (bytes zeros ++ [.int .u32 0, .int .i64 0])) [(0, .int .i64 (n : Int)), (1, .agg (bytes k).toArray), (2, .int .u32 1), (3, .int .i64 (-1))] = some (One.rc ⟨n, k, 1, -1, 0⟩) := by
  subst hp
  refine fill_seg [] [_] (bytes zeros ++ [.int .u32 0, .int .i64 0]) rfl rfl rfl rfl rfl rfl ?_
  refine fill_seg [_] (bytes zeros) [.int .u32 0, .int .i64 0] rfl (agg_cells _) rfl rfl rfl (by simp [h]) ?_
  refine fill_seg (vs := [.int .u32 1]) (.int .i64 (n : Int) :: bytes k) [.int .u32 0] [.int .i64 0] rfl rfl (by simp) (by simp [h]) rfl rfl ?_
  refine fill_seg (vs := [.int .i64 (-1)]) (.int .i64 (n : Int) :: (bytes k ++ [.int .u32 1])) [.int .i64 0] [] rfl rfl (by simp) (by simp [h]) rfl rfl ?_
  simp [One.rc, fillL]
theorem fill_one35 {cs zs : List Value} (h : cs.length = 35) (hz : zs.length = 35) : fillL (fun j => some (j * 35, 35)) (reps zs 1) [(0, .agg cs.toArray)] = some cs := by
  refine fill_seg [] zs [] rfl (agg_cells _) (by simp [reps]) rfl hz h ?_
  simp [fillL]
theorem rput_fin {R : List One} {n i : Nat} {k : List B8} (hi : i ≤ R.length) (hins : insP R (n : Int) = i) (y : Nat) (ob : Option Nat) (cp : Nat) :
    [cel y [slO ob (0 + (i - 0) + 1 + (R.length - i)) cp] 83, own ob cp 131 35 (0 + (i - 0) + 1 + (R.length - i)) ([] ++ rcs (R.take i) ++ One.rc ⟨n, k, 1, -1, 0⟩ ++ rcs (R.drop i))] = RefK y (rputR R (n : Int) k) ob cp := by
  have h1 : (rputR R (n : Int) k).length = 0 + (i - 0) + 1 + (R.length - i) := by rw [rputR, hins]; simp; omega
  have h2 : rcs (rputR R (n : Int) k) = [] ++ rcs (R.take i) ++ One.rc ⟨n, k, 1, -1, 0⟩ ++ rcs (R.drop i) := by
    rw [rputR, hins, rcs_app, Int.toNat_natCast]; simp [rcs]
  rw [RefK, h1, h2]
theorem rput_any (y : Nat) (R : List One) (ob : Option Nat) (cp : Nat) (s : Int) (k : List B8) (hk : k.length = 32) (hR : ROk R) (hl : R.length ≤ 1000) :
    Spc Tryz.prog 42 #[.pointer (some ⟨y, 0, none⟩), .int .i64 s, .agg (bytes k).toArray] [] (RefK y R ob cp) (RefR y (if mayB s = true then (match atO R s with | none => rputR R s k | some _ => R) else R) (if mayB s = true then (match atO R s with | none => 0 | some _ => 6) else 2)) := by
  refine Spc.enter Tryz.func42 rfl rfl rfl (fun w0 hw0 => ?_)
  refine CW.seq ?_
  refine CW.region (ef := [0]) (bk := []) ?_
  refine RL.box rfl rfl rfl rfl rfl rfl ?_
  intro b1
  refine RL.assign rfl rfl rfl rfl ?_
  refine RL.nil ?_
  refine NQ.seq ?_
  refine CW.seq ?_
  refine CW.seq ?_
  refine CW.region (ef := []) (bk := []) ?_
  refine RL.move rfl rfl rfl rfl ?_
  refine RL.callvq (rmay_any s) Tryz.call55 rfl rfl rfl rfl ?_
  refine RL.not rfl rfl rfl rfl ?_
  refine RL.nil ?_
  refine NQ.seq ?_
  refine CW.cond rfl (fun hm => ?_) (fun hm => ?_)
  ·
    refine CW.seq ?_
    refine CW.region (ef := []) (bk := []) ?_
    refine RL.assign rfl rfl rfl rfl ?_
    refine RL.nil ?_
    refine NQ.seq ?_
    refine CW.ret ?_
    refine RQ.seq ?_
    have hm : ¬ mayB s = true := by simpa using hm
    exact RQ.post (res1 rfl rfl) (.drop (.keep (.keep .nil))) ⟨by rw [if_neg hm], rfl, ob, cp, by rw [if_neg hm]⟩
  ·
    have hm : mayB s = true := by simpa using hm
    rcases atN_spec R s with ⟨h1, h2⟩ | ⟨i, o, h1, h2, h3⟩
    · have hat : atI R s = -1 := by rw [atI, h1]
      rw [if_pos hm, if_pos hm, h2]
      dsimp only
      obtain ⟨n, rfl⟩ : ∃ n : Nat, s = (n : Int) := ⟨s.toNat, by simp [mayB] at hm; omega⟩
      refine CW.skip ?_
      refine NQ.seq ?_
      refine CW.seq ?_
      refine CW.seq ?_
      refine CW.region (ef := []) (bk := []) ?_
      refine RL.move rfl rfl rfl rfl ?_
      refine RL.move rfl rfl rfl rfl ?_
      refine RL.callvq (rat_any y R ob cp (n : Int) hR (by omega)) Tryz.call53 rfl rfl rfl rfl ?_
      refine RL.bin rfl rfl rfl rfl rfl rfl ?_
      refine RL.nil ?_
      refine NQ.seq ?_
      refine CW.only (.cons (k := 0) rfl (.cons (k := 1) rfl (.cons (k := 5) rfl (.cons (k := 6) rfl (.cons (k := 14) rfl .nil))))) ?_
      refine CW.condF rfl ((by rw [hat]; rfl)) ?_
      refine CW.skip ?_
      refine NQ.seq ?_
      refine CW.seq ?_
      refine CW.region (ef := []) (bk := []) ?_
      refine RL.assign rfl rfl rfl rfl ?_
      refine RL.nil ?_
      refine NQ.seq ?_
      refine CW.seq ?_
      refine CW.fact (p := ob = none → R.length = 0) (fun w hC e => by
        have := own_sls (hC.s.h (own ob cp 131 35 R.length (rcs R)) (by repeat (first | exact List.Mem.head _ | apply List.Mem.tail)))
        exact sls_nil this (by rw [e]; rfl)) (fun hpa => ?_)
      refine CW.fact (p := R.length ≤ cp) (fun w hC => own_cap (ob := ob) (cap := cp) (hC.s.h (own ob cp 131 35 R.length (rcs R)) (List.Mem.tail _ (List.Mem.tail _ (List.Mem.head _))))) (fun hcl => ?_)
      refine CW.cut [(0, .pointer (some ⟨y, 0, none⟩)), (1, .int .i64 (n : Int)), (5, .pointer (some ⟨b1, 0, none⟩)), (7, .int .i64 (insP R (n : Int) : Int))] [] (cel b1 (bytes k) 56 :: RefK y R ob cp) ?_ ?_
      ·
        refine CW.block ?_
        refine CW.loop (γ := Nat) (fun i => i ≤ R.length ∧ ∀ (j : Nat) (o : One), j < i → R[j]? = some o → (o.s : Int) < (n : Int)) (fun i => [(0, .pointer (some ⟨y, 0, none⟩)), (1, .int .i64 (n : Int)), (5, .pointer (some ⟨b1, 0, none⟩)), (7, .int .i64 (i : Int))]) (fun _ => []) (fun _ => cel b1 (bytes k) 56 :: RefK y R ob cp) (fun i => R.length - i) 0 ⟨by omega, by omega⟩ (.cons rfl (.cons rfl (.cons rfl (.cons rfl .nil)))) (fun _ h => h) ?_
        rintro i ⟨hi, hn⟩
        refine CW.seq ?_
        refine CW.seq ?_
        refine CW.region (ef := []) (bk := []) ?_
        refine RL.move rfl rfl rfl rfl ?_
        refine RL.move rfl rfl rfl rfl ?_
        refine RL.nilCheck rfl rfl rfl rfl ?_
        refine RL.fieldAddr fa_83_0 rfl rfl rfl rfl ?_
        refine RL.loadq Tryz.isAgg81 rfl rfl rfl rfl ?_
        refine RL.lenS Tryz.runUnderlying81 rfl rfl rfl rfl ?_
        refine RL.bin rfl rfl rfl rfl rfl rfl ?_
        refine RL.move rfl rfl rfl rfl ?_
        refine RL.part (d := 22) rfl (fun hlt => ?_) (fun hlt => ?_)
        ·
          have hlt : i < R.length := by simp at hlt; omega
          cases ob with
          | none => exact absurd (hpa rfl) (by omega)
          | some ba =>
          have hx := List.getElem?_eq_getElem hlt
          generalize R[i] = o at hx
          have q : Rd [] (cel b1 (bytes k) 56 :: RefK y R (some ba) cp) ⟨ba, 0 + i * 35 + 0, none⟩ (.int .i64 (o.s : Int)) := rc_rdH hR (show own (some ba) cp 131 35 R.length (rcs R) ∈ cel b1 (bytes k) 56 :: RefK y R (some ba) cp from (by repeat (first | exact List.Mem.head _ | apply List.Mem.tail))) hx (rc_s o)
          refine RL.move rfl rfl rfl rfl ?_
          refine RL.nilCheck rfl rfl rfl rfl ?_
          refine RL.fieldAddr fa_83_0 rfl rfl rfl rfl ?_
          refine RL.loadq Tryz.isAgg81 rfl rfl rfl rfl ?_
          refine RL.move rfl rfl rfl rfl ?_
          refine RL.idxAt (j := i) Tryz.runUnderlying81 Tryz.sizeOf131 rfl rfl rfl rfl rfl rfl (hlt) ?_
          refine RL.fieldAddr fa_131_0 rfl rfl rfl rfl ?_
          refine RL.loadq Tryz.isAgg3 rfl rfl rfl rfl ?_
          refine RL.move rfl rfl rfl rfl ?_
          refine RL.bin rfl rfl rfl rfl rfl rfl ?_
          refine RL.pickT rfl rfl rfl rfl rfl ?_
          refine RL.nil ?_
          refine NQ.seq ?_
          refine CW.only (.cons (k := 0) rfl (.cons (k := 1) rfl (.cons (k := 5) rfl (.cons (k := 7) rfl (.cons (k := 33) rfl .nil))))) ?_
          refine CW.cond rfl (fun hb => ?_) (fun hb => ?_)
          ·
            refine CW.skip ?_
            refine NQ.seq ?_
            refine CW.block ?_
            refine CW.region (ef := []) (bk := []) ?_
            refine RL.move rfl rfl rfl rfl ?_
            refine RL.binX rfl rfl rfl rfl rfl rfl (wrapV_i64 (by omega) (by omega)) ?_
            refine RL.assign rfl rfl rfl rfl ?_
            refine RL.nil ?_
            refine NQ.block ?_
            have hb : (o.s : Int) < (n : Int) := by simpa using hb
            refine NQ.round (g := i) (i + 1) ⟨hlt, fun j x hj hjx => ?_⟩ (by omega) (.cons rfl (.cons rfl (.cons rfl (.cons rfl .nil)))) (fun _ h => h)
            by_cases hji : j = i
            · subst hji; rw [hx] at hjx; cases hjx; exact hb
            · exact hn j x (by omega) hjx
          ·
            refine CW.exit ?_
            refine XQ.seq ?_
            refine XQ.seq ?_
            refine XQ.hit ?_
            have hins : insP R (n : Int) = i := insP_is hi hn (fun x hx' => by rw [hx] at hx'; cases hx'; simpa using hb)
            rw [hins]
            exact NQ.mid (.cons rfl (.cons rfl (.cons rfl (.cons rfl .nil)))) (fun _ h => h)
        ·
          have hin : i = R.length := by simp at hlt; omega
          have hins : insP R (n : Int) = i := insP_is hi hn (fun x hx' => by rw [List.getElem?_eq_none (by omega)] at hx'; cases hx')
          refine RL.skip rfl rfl rfl rfl ?_
          refine RL.skip rfl rfl rfl rfl ?_
          refine RL.skip rfl rfl rfl rfl ?_
          refine RL.skip rfl rfl rfl rfl ?_
          refine RL.skip rfl rfl rfl rfl ?_
          refine RL.skip rfl rfl rfl rfl ?_
          refine RL.skip rfl rfl rfl rfl ?_
          refine RL.skip rfl rfl rfl rfl ?_
          refine RL.skip rfl rfl rfl rfl ?_
          refine RL.skip rfl rfl rfl rfl ?_
          refine RL.pickF rfl rfl rfl rfl rfl ?_
          refine RL.nil ?_
          refine NQ.seq ?_
          refine CW.only (.cons (k := 0) rfl (.cons (k := 1) rfl (.cons (k := 5) rfl (.cons (k := 7) rfl (.cons (k := 33) rfl .nil))))) ?_
          refine CW.condF rfl rfl ?_
          refine CW.exit ?_
          refine XQ.seq ?_
          refine XQ.seq ?_
          refine XQ.hit ?_
          rw [hins]
          exact NQ.mid (.cons rfl (.cons rfl (.cons rfl (.cons rfl .nil)))) (fun _ h => h)
      ·
        have hi := insP_le R (n : Int)
        generalize hins : insP R (n : Int) = i at hi
        have hs1 : ∀ {I' H' : List It}, own ob cp 131 35 R.length (rcs R) ∈ H' → Src I' H' _ (i - 0) 35 (rcs (R.take i)) := fun hm => rc_src1 hR hi hcl hm
        have hs2 : ∀ {I' H' : List It}, own ob cp 131 35 R.length (rcs R) ∈ H' → Src I' H' _ (R.length - i) 35 (rcs (R.drop i)) := fun hm => rc_src2 hR hi hcl hm
        refine CW.freezeP (A := [_]) (B := [_, _]) (.take (.leave (.leave .nil))) rfl ?_
        refine CW.seq ?_
        refine CW.regionD (.cons 0 (.cons 2 (.cons 3 (.cons 4 (.cons 5 (.cons 6 (.cons 7 (.cons 9 (.cons 10 (.cons 11 (.cons 14 (.cons 15 (.cons 16 (.cons 18 (.fork [1, 12, 17] (fun k => (bif Nat.beq k 1 then (.fork [8, 12, 17] (fun k => (bif Nat.beq k 8 then (.fork [12, 17] (fun k => (bif Nat.beq k 12 then (.fork [13, 17] (fun k => (bif Nat.beq k 13 then (Sq.of [17, 19, 20, 21, 22, 23]) else (Sq.of [19, 13, 20, 21, 22, 23])))) else (Sq.of [19, 12, 13, 20, 21, 22, 23])))) else (bif Nat.beq k 12 then (.fork [8, 17] (fun k => (bif Nat.beq k 8 then (.fork [13, 17] (fun k => (bif Nat.beq k 13 then (Sq.of [17, 19, 20, 21, 22, 23]) else (Sq.of [19, 13, 20, 21, 22, 23])))) else (Sq.of [19, 8, 13, 20, 21, 22, 23])))) else (.cons 19 (.fork [8, 12] (fun k => (bif Nat.beq k 8 then (Sq.of [12, 13, 20, 21, 22, 23]) else (Sq.of [8, 13, 20, 21, 22, 23]))))))))) else (bif Nat.beq k 12 then (.fork [1, 17] (fun k => (bif Nat.beq k 1 then (.fork [8, 17] (fun k => (bif Nat.beq k 8 then (.fork [13, 17] (fun k => (bif Nat.beq k 13 then (Sq.of [17, 19, 20, 21, 22, 23]) else (Sq.of [19, 13, 20, 21, 22, 23])))) else (Sq.of [19, 8, 13, 20, 21, 22, 23])))) else (Sq.of [19, 1, 8, 13, 20, 21, 22, 23])))) else (.cons 19 (.fork [1, 12] (fun k => (bif Nat.beq k 1 then (.fork [8, 12] (fun k => (bif Nat.beq k 8 then (Sq.of [12, 13, 20, 21, 22, 23]) else (Sq.of [8, 13, 20, 21, 22, 23])))) else (Sq.of [1, 8, 13, 20, 21, 22, 23]))))))))))))))))))))))) [1, 8, 12, 13, 20, 23] [8, 13, 20, 23] [0, 2, 3, 4, 6, 7, 9, 10, 11, 14, 15, 16, 18, 19, 21, 22] mixed (by kernel_rfl) ?_
        refine RL.move rfl rfl rfl rfl ?_
        refine RL.move rfl rfl rfl rfl ?_
        refine RL.nilCheck rfl rfl rfl rfl ?_
        refine RL.fieldAddr fa_83_0 rfl rfl rfl rfl ?_
        refine RL.loadq Tryz.isAgg81 rfl rfl rfl rfl ?_
        refine RL.move rfl rfl rfl rfl ?_
        refine RL.slice (lo := 0) (hi := i) Tryz.runUnderlying81 Tryz.sizeOf131 rfl rfl rfl rfl rfl rfl (by omega) (by omega) ?_
        refine RL.move rfl rfl rfl rfl ?_
        refine RL.loadWT Tryz.isAgg56 Tryz.sizeOf56 rfl rfl rfl rfl (by repeat (first | exact List.Mem.head _ | apply List.Mem.tail)) (by first | rfl | assumption | (simp only [List.length_map]; assumption) | (simp only [List.length_map, List.length_replicate, hk]; done) | (simp; done)) ?_
        refine RL.buildS (One.rc ⟨n, k, 1, -1, 0⟩) Tryz.zeroValue131 pl_131 rfl rfl rfl rfl (fill_rc hk rfl) ?_
        refine RL.move rfl rfl rfl rfl ?_
        refine RL.nilCheck rfl rfl rfl rfl ?_
        refine RL.fieldAddr fa_83_0 rfl rfl rfl rfl ?_
        refine RL.move rfl rfl rfl rfl ?_
        refine RL.fork ⟨?_, ?_, ?_, trivial⟩
        ·
          refine RL.buildOwn [] Tryz.runUnderlying81 Tryz.sizeOf131 Tryz.zeroValue131 rfl rfl (by decide) (by decide) rfl (by decide) rfl rfl rfl rfl rfl rfl ?_
          intro b2
          refine RL.fork ⟨?_, ?_, ?_, trivial⟩
          ·
            refine RL.appendA el_81 rfl rfl rfl rfl rfl rfl rfl (by first | exact ⟨(.take (Pick.none _)), rfl⟩ | exact ⟨(.leave (.take (Pick.none _))), rfl⟩ | exact ⟨(.leave (.leave (.take (Pick.none _)))), rfl⟩ | exact ⟨(.leave (.leave (.leave (.take (Pick.none _))))), rfl⟩ | exact ⟨(.leave (.leave (.leave (.leave (.take (Pick.none _)))))), rfl⟩ | exact ⟨(.leave (.leave (.leave (.leave (.leave (.take (Pick.none _))))))), rfl⟩ | exact ⟨(.leave (.leave (.leave (.leave (.leave (.leave (.take (Pick.none _)))))))), rfl⟩ | exact ⟨(.leave (.leave (.leave (.leave (.leave (.leave (.leave (.take (Pick.none _))))))))), rfl⟩ | exact ⟨(.leave (.leave (.leave (.leave (.leave (.leave (.leave (.leave (.take (Pick.none _)))))))))), rfl⟩ | exact ⟨(.leave (.leave (.leave (.leave (.leave (.leave (.leave (.leave (.leave (.take (Pick.none _))))))))))), rfl⟩) (hs1 (by repeat (first | exact List.Mem.head _ | apply List.Mem.tail))) (ones_rcs _) (by first | omega | (simp only [maxLen]; omega)) (by first | omega | (simp only [maxLen]; omega)) ?_
            intro ob1 cap1 ho1
            refine RL.fork ⟨?_, ?_, trivial⟩
            ·
              refine RL.buildSlice (One.rc ⟨n, k, 1, -1, 0⟩) Tryz.runUnderlying81 Tryz.sizeOf131 Tryz.zeroValue131 rfl rfl (by decide) (by decide) rfl rfl rfl rfl rfl (fill_one35 (rc_len hk) rfl) ?_
              intro b3
              refine RL.fork ⟨?_, ?_, trivial⟩
              ·
                refine RL.appendA el_81 rfl rfl rfl rfl rfl rfl rfl (by first | exact ⟨(.take (Pick.none _)), rfl⟩ | exact ⟨(.leave (.take (Pick.none _))), rfl⟩ | exact ⟨(.leave (.leave (.take (Pick.none _)))), rfl⟩ | exact ⟨(.leave (.leave (.leave (.take (Pick.none _))))), rfl⟩ | exact ⟨(.leave (.leave (.leave (.leave (.take (Pick.none _)))))), rfl⟩ | exact ⟨(.leave (.leave (.leave (.leave (.leave (.take (Pick.none _))))))), rfl⟩ | exact ⟨(.leave (.leave (.leave (.leave (.leave (.leave (.take (Pick.none _)))))))), rfl⟩ | exact ⟨(.leave (.leave (.leave (.leave (.leave (.leave (.leave (.take (Pick.none _))))))))), rfl⟩ | exact ⟨(.leave (.leave (.leave (.leave (.leave (.leave (.leave (.leave (.take (Pick.none _)))))))))), rfl⟩ | exact ⟨(.leave (.leave (.leave (.leave (.leave (.leave (.leave (.leave (.leave (.take (Pick.none _))))))))))), rfl⟩) (Src.cel (by repeat (first | exact List.Mem.head _ | apply List.Mem.tail)) (rc_len hk)) (ones_rc _) (by first | omega | (simp only [maxLen]; omega)) (by first | omega | (simp only [maxLen]; omega)) ?_
                intro ob2 cap2 ho2
                refine RL.loadq Tryz.isAgg81 rfl rfl rfl rfl ?_
                refine RL.slice (lo := i) (hi := R.length) Tryz.runUnderlying81 Tryz.sizeOf131 rfl rfl rfl rfl rfl rfl (by omega) (by omega) ?_
                refine RL.appendA el_81 rfl rfl rfl rfl rfl rfl rfl (by first | exact ⟨(.take (Pick.none _)), rfl⟩ | exact ⟨(.leave (.take (Pick.none _))), rfl⟩ | exact ⟨(.leave (.leave (.take (Pick.none _)))), rfl⟩ | exact ⟨(.leave (.leave (.leave (.take (Pick.none _))))), rfl⟩ | exact ⟨(.leave (.leave (.leave (.leave (.take (Pick.none _)))))), rfl⟩ | exact ⟨(.leave (.leave (.leave (.leave (.leave (.take (Pick.none _))))))), rfl⟩ | exact ⟨(.leave (.leave (.leave (.leave (.leave (.leave (.take (Pick.none _)))))))), rfl⟩ | exact ⟨(.leave (.leave (.leave (.leave (.leave (.leave (.leave (.take (Pick.none _))))))))), rfl⟩ | exact ⟨(.leave (.leave (.leave (.leave (.leave (.leave (.leave (.leave (.take (Pick.none _)))))))))), rfl⟩ | exact ⟨(.leave (.leave (.leave (.leave (.leave (.leave (.leave (.leave (.leave (.take (Pick.none _))))))))))), rfl⟩) (hs2 (by repeat (first | exact List.Mem.head _ | apply List.Mem.tail))) (ones_rcs _) (by first | omega | (simp only [maxLen]; omega)) (by first | omega | (simp only [maxLen]; omega)) ?_
                intro ob3 cap3 ho3
                refine RL.nilCheck rfl rfl rfl rfl ?_
                refine RL.fieldAddr fa_83_0 rfl rfl rfl rfl ?_
                refine RL.store (vs := [_]) Tryz.sizeOf81 rfl rfl rfl rfl rfl rfl rfl rfl rfl (by repeat (first | exact Upd.here | apply Upd.there)) ?_
                refine RL.nil ?_
                refine NQ.seq ?_
                refine CW.only .nil ?_
                refine CW.seq ?_
                refine CW.region (ef := []) (bk := []) ?_
                refine RL.assign rfl rfl rfl rfl ?_
                refine RL.nil ?_
                refine NQ.seq ?_
                refine CW.ret ?_
                refine RQ.rea (fun _ h => h) (H' := [cel y [slO ob3 (0 + (i - 0) + 1 + (R.length - i)) cap3] 83, own ob3 cap3 131 35 (0 + (i - 0) + 1 + (R.length - i)) ([] ++ rcs (R.take i) ++ One.rc ⟨n, k, 1, -1, 0⟩ ++ rcs (R.drop i))]) (by repeat (first | exact Rea.nil | (apply Rea.cons; (solve | (repeat (first | exact Del.here | apply Del.there)))))) (RQ.post (res1 rfl rfl) (.keep (.keep .nil)) ⟨rfl, rfl, ob3, cap3, rput_fin hi hins y ob3 cap3⟩)
              ·
                refine RL.loadq Tryz.isAgg81 rfl rfl rfl rfl ?_
                refine RL.slice (lo := i) (hi := R.length) Tryz.runUnderlying81 Tryz.sizeOf131 rfl rfl rfl rfl rfl rfl (by omega) (by omega) ?_
                refine RL.appendA el_81 rfl rfl rfl rfl rfl rfl rfl (by first | exact ⟨(.take (Pick.none _)), rfl⟩ | exact ⟨(.leave (.take (Pick.none _))), rfl⟩ | exact ⟨(.leave (.leave (.take (Pick.none _)))), rfl⟩ | exact ⟨(.leave (.leave (.leave (.take (Pick.none _))))), rfl⟩ | exact ⟨(.leave (.leave (.leave (.leave (.take (Pick.none _)))))), rfl⟩ | exact ⟨(.leave (.leave (.leave (.leave (.leave (.take (Pick.none _))))))), rfl⟩ | exact ⟨(.leave (.leave (.leave (.leave (.leave (.leave (.take (Pick.none _)))))))), rfl⟩ | exact ⟨(.leave (.leave (.leave (.leave (.leave (.leave (.leave (.take (Pick.none _))))))))), rfl⟩ | exact ⟨(.leave (.leave (.leave (.leave (.leave (.leave (.leave (.leave (.take (Pick.none _)))))))))), rfl⟩ | exact ⟨(.leave (.leave (.leave (.leave (.leave (.leave (.leave (.leave (.leave (.take (Pick.none _))))))))))), rfl⟩) (Src.cel (by repeat (first | exact List.Mem.head _ | apply List.Mem.tail)) (rc_len hk)) (ones_rc _) (by first | omega | (simp only [maxLen]; omega)) (by first | omega | (simp only [maxLen]; omega)) ?_
                intro ob2 cap2 ho2
                refine RL.appendA el_81 rfl rfl rfl rfl rfl rfl rfl (by first | exact ⟨(.take (Pick.none _)), rfl⟩ | exact ⟨(.leave (.take (Pick.none _))), rfl⟩ | exact ⟨(.leave (.leave (.take (Pick.none _)))), rfl⟩ | exact ⟨(.leave (.leave (.leave (.take (Pick.none _))))), rfl⟩ | exact ⟨(.leave (.leave (.leave (.leave (.take (Pick.none _)))))), rfl⟩ | exact ⟨(.leave (.leave (.leave (.leave (.leave (.take (Pick.none _))))))), rfl⟩ | exact ⟨(.leave (.leave (.leave (.leave (.leave (.leave (.take (Pick.none _)))))))), rfl⟩ | exact ⟨(.leave (.leave (.leave (.leave (.leave (.leave (.leave (.take (Pick.none _))))))))), rfl⟩ | exact ⟨(.leave (.leave (.leave (.leave (.leave (.leave (.leave (.leave (.take (Pick.none _)))))))))), rfl⟩ | exact ⟨(.leave (.leave (.leave (.leave (.leave (.leave (.leave (.leave (.leave (.take (Pick.none _))))))))))), rfl⟩) (hs2 (by repeat (first | exact List.Mem.head _ | apply List.Mem.tail))) (ones_rcs _) (by first | omega | (simp only [maxLen]; omega)) (by first | omega | (simp only [maxLen]; omega)) ?_
                intro ob3 cap3 ho3
                refine RL.nilCheck rfl rfl rfl rfl ?_
                refine RL.fieldAddr fa_83_0 rfl rfl rfl rfl ?_
                refine RL.store (vs := [_]) Tryz.sizeOf81 rfl rfl rfl rfl rfl rfl rfl rfl rfl (by repeat (first | exact Upd.here | apply Upd.there)) ?_
                refine RL.nil ?_
                refine NQ.seq ?_
                refine CW.only .nil ?_
                refine CW.seq ?_
                refine CW.region (ef := []) (bk := []) ?_
                refine RL.assign rfl rfl rfl rfl ?_
                refine RL.nil ?_
                refine NQ.seq ?_
                refine CW.ret ?_
                refine RQ.rea (fun _ h => h) (H' := [cel y [slO ob3 (0 + (i - 0) + 1 + (R.length - i)) cap3] 83, own ob3 cap3 131 35 (0 + (i - 0) + 1 + (R.length - i)) ([] ++ rcs (R.take i) ++ One.rc ⟨n, k, 1, -1, 0⟩ ++ rcs (R.drop i))]) (by repeat (first | exact Rea.nil | (apply Rea.cons; (solve | (repeat (first | exact Del.here | apply Del.there)))))) (RQ.post (res1 rfl rfl) (.keep (.keep .nil)) ⟨rfl, rfl, ob3, cap3, rput_fin hi hins y ob3 cap3⟩)
            ·
              refine RL.loadq Tryz.isAgg81 rfl rfl rfl rfl ?_
              refine RL.slice (lo := i) (hi := R.length) Tryz.runUnderlying81 Tryz.sizeOf131 rfl rfl rfl rfl rfl rfl (by omega) (by omega) ?_
              refine RL.buildSlice (One.rc ⟨n, k, 1, -1, 0⟩) Tryz.runUnderlying81 Tryz.sizeOf131 Tryz.zeroValue131 rfl rfl (by decide) (by decide) rfl rfl rfl rfl rfl (fill_one35 (rc_len hk) rfl) ?_
              intro b3
              refine RL.appendA el_81 rfl rfl rfl rfl rfl rfl rfl (by first | exact ⟨(.take (Pick.none _)), rfl⟩ | exact ⟨(.leave (.take (Pick.none _))), rfl⟩ | exact ⟨(.leave (.leave (.take (Pick.none _)))), rfl⟩ | exact ⟨(.leave (.leave (.leave (.take (Pick.none _))))), rfl⟩ | exact ⟨(.leave (.leave (.leave (.leave (.take (Pick.none _)))))), rfl⟩ | exact ⟨(.leave (.leave (.leave (.leave (.leave (.take (Pick.none _))))))), rfl⟩ | exact ⟨(.leave (.leave (.leave (.leave (.leave (.leave (.take (Pick.none _)))))))), rfl⟩ | exact ⟨(.leave (.leave (.leave (.leave (.leave (.leave (.leave (.take (Pick.none _))))))))), rfl⟩ | exact ⟨(.leave (.leave (.leave (.leave (.leave (.leave (.leave (.leave (.take (Pick.none _)))))))))), rfl⟩ | exact ⟨(.leave (.leave (.leave (.leave (.leave (.leave (.leave (.leave (.leave (.take (Pick.none _))))))))))), rfl⟩) (Src.cel (by repeat (first | exact List.Mem.head _ | apply List.Mem.tail)) (rc_len hk)) (ones_rc _) (by first | omega | (simp only [maxLen]; omega)) (by first | omega | (simp only [maxLen]; omega)) ?_
              intro ob2 cap2 ho2
              refine RL.appendA el_81 rfl rfl rfl rfl rfl rfl rfl (by first | exact ⟨(.take (Pick.none _)), rfl⟩ | exact ⟨(.leave (.take (Pick.none _))), rfl⟩ | exact ⟨(.leave (.leave (.take (Pick.none _)))), rfl⟩ | exact ⟨(.leave (.leave (.leave (.take (Pick.none _))))), rfl⟩ | exact ⟨(.leave (.leave (.leave (.leave (.take (Pick.none _)))))), rfl⟩ | exact ⟨(.leave (.leave (.leave (.leave (.leave (.take (Pick.none _))))))), rfl⟩ | exact ⟨(.leave (.leave (.leave (.leave (.leave (.leave (.take (Pick.none _)))))))), rfl⟩ | exact ⟨(.leave (.leave (.leave (.leave (.leave (.leave (.leave (.take (Pick.none _))))))))), rfl⟩ | exact ⟨(.leave (.leave (.leave (.leave (.leave (.leave (.leave (.leave (.take (Pick.none _)))))))))), rfl⟩ | exact ⟨(.leave (.leave (.leave (.leave (.leave (.leave (.leave (.leave (.leave (.take (Pick.none _))))))))))), rfl⟩) (hs2 (by repeat (first | exact List.Mem.head _ | apply List.Mem.tail))) (ones_rcs _) (by first | omega | (simp only [maxLen]; omega)) (by first | omega | (simp only [maxLen]; omega)) ?_
              intro ob3 cap3 ho3
              refine RL.nilCheck rfl rfl rfl rfl ?_
              refine RL.fieldAddr fa_83_0 rfl rfl rfl rfl ?_
              refine RL.store (vs := [_]) Tryz.sizeOf81 rfl rfl rfl rfl rfl rfl rfl rfl rfl (by repeat (first | exact Upd.here | apply Upd.there)) ?_
              refine RL.nil ?_
              refine NQ.seq ?_
              refine CW.only .nil ?_
              refine CW.seq ?_
              refine CW.region (ef := []) (bk := []) ?_
              refine RL.assign rfl rfl rfl rfl ?_
              refine RL.nil ?_
              refine NQ.seq ?_
              refine CW.ret ?_
              refine RQ.rea (fun _ h => h) (H' := [cel y [slO ob3 (0 + (i - 0) + 1 + (R.length - i)) cap3] 83, own ob3 cap3 131 35 (0 + (i - 0) + 1 + (R.length - i)) ([] ++ rcs (R.take i) ++ One.rc ⟨n, k, 1, -1, 0⟩ ++ rcs (R.drop i))]) (by repeat (first | exact Rea.nil | (apply Rea.cons; (solve | (repeat (first | exact Del.here | apply Del.there)))))) (RQ.post (res1 rfl rfl) (.keep (.keep .nil)) ⟨rfl, rfl, ob3, cap3, rput_fin hi hins y ob3 cap3⟩)
          ·
            refine RL.buildSlice (One.rc ⟨n, k, 1, -1, 0⟩) Tryz.runUnderlying81 Tryz.sizeOf131 Tryz.zeroValue131 rfl rfl (by decide) (by decide) rfl rfl rfl rfl rfl (fill_one35 (rc_len hk) rfl) ?_
            intro b3
            refine RL.fork ⟨?_, ?_, trivial⟩
            ·
              refine RL.appendA el_81 rfl rfl rfl rfl rfl rfl rfl (by first | exact ⟨(.take (Pick.none _)), rfl⟩ | exact ⟨(.leave (.take (Pick.none _))), rfl⟩ | exact ⟨(.leave (.leave (.take (Pick.none _)))), rfl⟩ | exact ⟨(.leave (.leave (.leave (.take (Pick.none _))))), rfl⟩ | exact ⟨(.leave (.leave (.leave (.leave (.take (Pick.none _)))))), rfl⟩ | exact ⟨(.leave (.leave (.leave (.leave (.leave (.take (Pick.none _))))))), rfl⟩ | exact ⟨(.leave (.leave (.leave (.leave (.leave (.leave (.take (Pick.none _)))))))), rfl⟩ | exact ⟨(.leave (.leave (.leave (.leave (.leave (.leave (.leave (.take (Pick.none _))))))))), rfl⟩ | exact ⟨(.leave (.leave (.leave (.leave (.leave (.leave (.leave (.leave (.take (Pick.none _)))))))))), rfl⟩ | exact ⟨(.leave (.leave (.leave (.leave (.leave (.leave (.leave (.leave (.leave (.take (Pick.none _))))))))))), rfl⟩) (hs1 (by repeat (first | exact List.Mem.head _ | apply List.Mem.tail))) (ones_rcs _) (by first | omega | (simp only [maxLen]; omega)) (by first | omega | (simp only [maxLen]; omega)) ?_
              intro ob1 cap1 ho1
              refine RL.fork ⟨?_, ?_, trivial⟩
              ·
                refine RL.appendA el_81 rfl rfl rfl rfl rfl rfl rfl (by first | exact ⟨(.take (Pick.none _)), rfl⟩ | exact ⟨(.leave (.take (Pick.none _))), rfl⟩ | exact ⟨(.leave (.leave (.take (Pick.none _)))), rfl⟩ | exact ⟨(.leave (.leave (.leave (.take (Pick.none _))))), rfl⟩ | exact ⟨(.leave (.leave (.leave (.leave (.take (Pick.none _)))))), rfl⟩ | exact ⟨(.leave (.leave (.leave (.leave (.leave (.take (Pick.none _))))))), rfl⟩ | exact ⟨(.leave (.leave (.leave (.leave (.leave (.leave (.take (Pick.none _)))))))), rfl⟩ | exact ⟨(.leave (.leave (.leave (.leave (.leave (.leave (.leave (.take (Pick.none _))))))))), rfl⟩ | exact ⟨(.leave (.leave (.leave (.leave (.leave (.leave (.leave (.leave (.take (Pick.none _)))))))))), rfl⟩ | exact ⟨(.leave (.leave (.leave (.leave (.leave (.leave (.leave (.leave (.leave (.take (Pick.none _))))))))))), rfl⟩) (Src.cel (by repeat (first | exact List.Mem.head _ | apply List.Mem.tail)) (rc_len hk)) (ones_rc _) (by first | omega | (simp only [maxLen]; omega)) (by first | omega | (simp only [maxLen]; omega)) ?_
                intro ob2 cap2 ho2
                refine RL.loadq Tryz.isAgg81 rfl rfl rfl rfl ?_
                refine RL.slice (lo := i) (hi := R.length) Tryz.runUnderlying81 Tryz.sizeOf131 rfl rfl rfl rfl rfl rfl (by omega) (by omega) ?_
                refine RL.appendA el_81 rfl rfl rfl rfl rfl rfl rfl (by first | exact ⟨(.take (Pick.none _)), rfl⟩ | exact ⟨(.leave (.take (Pick.none _))), rfl⟩ | exact ⟨(.leave (.leave (.take (Pick.none _)))), rfl⟩ | exact ⟨(.leave (.leave (.leave (.take (Pick.none _))))), rfl⟩ | exact ⟨(.leave (.leave (.leave (.leave (.take (Pick.none _)))))), rfl⟩ | exact ⟨(.leave (.leave (.leave (.leave (.leave (.take (Pick.none _))))))), rfl⟩ | exact ⟨(.leave (.leave (.leave (.leave (.leave (.leave (.take (Pick.none _)))))))), rfl⟩ | exact ⟨(.leave (.leave (.leave (.leave (.leave (.leave (.leave (.take (Pick.none _))))))))), rfl⟩ | exact ⟨(.leave (.leave (.leave (.leave (.leave (.leave (.leave (.leave (.take (Pick.none _)))))))))), rfl⟩ | exact ⟨(.leave (.leave (.leave (.leave (.leave (.leave (.leave (.leave (.leave (.take (Pick.none _))))))))))), rfl⟩) (hs2 (by repeat (first | exact List.Mem.head _ | apply List.Mem.tail))) (ones_rcs _) (by first | omega | (simp only [maxLen]; omega)) (by first | omega | (simp only [maxLen]; omega)) ?_
                intro ob3 cap3 ho3
                refine RL.nilCheck rfl rfl rfl rfl ?_
                refine RL.fieldAddr fa_83_0 rfl rfl rfl rfl ?_
                refine RL.store (vs := [_]) Tryz.sizeOf81 rfl rfl rfl rfl rfl rfl rfl rfl rfl (by repeat (first | exact Upd.here | apply Upd.there)) ?_
                refine RL.nil ?_
                refine NQ.seq ?_
                refine CW.only .nil ?_
                refine CW.seq ?_
                refine CW.region (ef := []) (bk := []) ?_
                refine RL.assign rfl rfl rfl rfl ?_
                refine RL.nil ?_
                refine NQ.seq ?_
                refine CW.ret ?_
                refine RQ.rea (fun _ h => h) (H' := [cel y [slO ob3 (0 + (i - 0) + 1 + (R.length - i)) cap3] 83, own ob3 cap3 131 35 (0 + (i - 0) + 1 + (R.length - i)) ([] ++ rcs (R.take i) ++ One.rc ⟨n, k, 1, -1, 0⟩ ++ rcs (R.drop i))]) (by repeat (first | exact Rea.nil | (apply Rea.cons; (solve | (repeat (first | exact Del.here | apply Del.there)))))) (RQ.post (res1 rfl rfl) (.keep (.keep .nil)) ⟨rfl, rfl, ob3, cap3, rput_fin hi hins y ob3 cap3⟩)
              ·
                refine RL.loadq Tryz.isAgg81 rfl rfl rfl rfl ?_
                refine RL.slice (lo := i) (hi := R.length) Tryz.runUnderlying81 Tryz.sizeOf131 rfl rfl rfl rfl rfl rfl (by omega) (by omega) ?_
                refine RL.appendA el_81 rfl rfl rfl rfl rfl rfl rfl (by first | exact ⟨(.take (Pick.none _)), rfl⟩ | exact ⟨(.leave (.take (Pick.none _))), rfl⟩ | exact ⟨(.leave (.leave (.take (Pick.none _)))), rfl⟩ | exact ⟨(.leave (.leave (.leave (.take (Pick.none _))))), rfl⟩ | exact ⟨(.leave (.leave (.leave (.leave (.take (Pick.none _)))))), rfl⟩ | exact ⟨(.leave (.leave (.leave (.leave (.leave (.take (Pick.none _))))))), rfl⟩ | exact ⟨(.leave (.leave (.leave (.leave (.leave (.leave (.take (Pick.none _)))))))), rfl⟩ | exact ⟨(.leave (.leave (.leave (.leave (.leave (.leave (.leave (.take (Pick.none _))))))))), rfl⟩ | exact ⟨(.leave (.leave (.leave (.leave (.leave (.leave (.leave (.leave (.take (Pick.none _)))))))))), rfl⟩ | exact ⟨(.leave (.leave (.leave (.leave (.leave (.leave (.leave (.leave (.leave (.take (Pick.none _))))))))))), rfl⟩) (Src.cel (by repeat (first | exact List.Mem.head _ | apply List.Mem.tail)) (rc_len hk)) (ones_rc _) (by first | omega | (simp only [maxLen]; omega)) (by first | omega | (simp only [maxLen]; omega)) ?_
                intro ob2 cap2 ho2
                refine RL.appendA el_81 rfl rfl rfl rfl rfl rfl rfl (by first | exact ⟨(.take (Pick.none _)), rfl⟩ | exact ⟨(.leave (.take (Pick.none _))), rfl⟩ | exact ⟨(.leave (.leave (.take (Pick.none _)))), rfl⟩ | exact ⟨(.leave (.leave (.leave (.take (Pick.none _))))), rfl⟩ | exact ⟨(.leave (.leave (.leave (.leave (.take (Pick.none _)))))), rfl⟩ | exact ⟨(.leave (.leave (.leave (.leave (.leave (.take (Pick.none _))))))), rfl⟩ | exact ⟨(.leave (.leave (.leave (.leave (.leave (.leave (.take (Pick.none _)))))))), rfl⟩ | exact ⟨(.leave (.leave (.leave (.leave (.leave (.leave (.leave (.take (Pick.none _))))))))), rfl⟩ | exact ⟨(.leave (.leave (.leave (.leave (.leave (.leave (.leave (.leave (.take (Pick.none _)))))))))), rfl⟩ | exact ⟨(.leave (.leave (.leave (.leave (.leave (.leave (.leave (.leave (.leave (.take (Pick.none _))))))))))), rfl⟩) (hs2 (by repeat (first | exact List.Mem.head _ | apply List.Mem.tail))) (ones_rcs _) (by first | omega | (simp only [maxLen]; omega)) (by first | omega | (simp only [maxLen]; omega)) ?_
                intro ob3 cap3 ho3
                refine RL.nilCheck rfl rfl rfl rfl ?_
                refine RL.fieldAddr fa_83_0 rfl rfl rfl rfl ?_
                refine RL.store (vs := [_]) Tryz.sizeOf81 rfl rfl rfl rfl rfl rfl rfl rfl rfl (by repeat (first | exact Upd.here | apply Upd.there)) ?_
                refine RL.nil ?_
                refine NQ.seq ?_
                refine CW.only .nil ?_
                refine CW.seq ?_
                refine CW.region (ef := []) (bk := []) ?_
                refine RL.assign rfl rfl rfl rfl ?_
                refine RL.nil ?_
                refine NQ.seq ?_
                refine CW.ret ?_
                refine RQ.rea (fun _ h => h) (H' := [cel y [slO ob3 (0 + (i - 0) + 1 + (R.length - i)) cap3] 83, own ob3 cap3 131 35 (0 + (i - 0) + 1 + (R.length - i)) ([] ++ rcs (R.take i) ++ One.rc ⟨n, k, 1, -1, 0⟩ ++ rcs (R.drop i))]) (by repeat (first | exact Rea.nil | (apply Rea.cons; (solve | (repeat (first | exact Del.here | apply Del.there)))))) (RQ.post (res1 rfl rfl) (.keep (.keep .nil)) ⟨rfl, rfl, ob3, cap3, rput_fin hi hins y ob3 cap3⟩)
            ·
              refine RL.loadq Tryz.isAgg81 rfl rfl rfl rfl ?_
              refine RL.slice (lo := i) (hi := R.length) Tryz.runUnderlying81 Tryz.sizeOf131 rfl rfl rfl rfl rfl rfl (by omega) (by omega) ?_
              refine RL.appendA el_81 rfl rfl rfl rfl rfl rfl rfl (by first | exact ⟨(.take (Pick.none _)), rfl⟩ | exact ⟨(.leave (.take (Pick.none _))), rfl⟩ | exact ⟨(.leave (.leave (.take (Pick.none _)))), rfl⟩ | exact ⟨(.leave (.leave (.leave (.take (Pick.none _))))), rfl⟩ | exact ⟨(.leave (.leave (.leave (.leave (.take (Pick.none _)))))), rfl⟩ | exact ⟨(.leave (.leave (.leave (.leave (.leave (.take (Pick.none _))))))), rfl⟩ | exact ⟨(.leave (.leave (.leave (.leave (.leave (.leave (.take (Pick.none _)))))))), rfl⟩ | exact ⟨(.leave (.leave (.leave (.leave (.leave (.leave (.leave (.take (Pick.none _))))))))), rfl⟩ | exact ⟨(.leave (.leave (.leave (.leave (.leave (.leave (.leave (.leave (.take (Pick.none _)))))))))), rfl⟩ | exact ⟨(.leave (.leave (.leave (.leave (.leave (.leave (.leave (.leave (.leave (.take (Pick.none _))))))))))), rfl⟩) (hs1 (by repeat (first | exact List.Mem.head _ | apply List.Mem.tail))) (ones_rcs _) (by first | omega | (simp only [maxLen]; omega)) (by first | omega | (simp only [maxLen]; omega)) ?_
              intro ob1 cap1 ho1
              refine RL.appendA el_81 rfl rfl rfl rfl rfl rfl rfl (by first | exact ⟨(.take (Pick.none _)), rfl⟩ | exact ⟨(.leave (.take (Pick.none _))), rfl⟩ | exact ⟨(.leave (.leave (.take (Pick.none _)))), rfl⟩ | exact ⟨(.leave (.leave (.leave (.take (Pick.none _))))), rfl⟩ | exact ⟨(.leave (.leave (.leave (.leave (.take (Pick.none _)))))), rfl⟩ | exact ⟨(.leave (.leave (.leave (.leave (.leave (.take (Pick.none _))))))), rfl⟩ | exact ⟨(.leave (.leave (.leave (.leave (.leave (.leave (.take (Pick.none _)))))))), rfl⟩ | exact ⟨(.leave (.leave (.leave (.leave (.leave (.leave (.leave (.take (Pick.none _))))))))), rfl⟩ | exact ⟨(.leave (.leave (.leave (.leave (.leave (.leave (.leave (.leave (.take (Pick.none _)))))))))), rfl⟩ | exact ⟨(.leave (.leave (.leave (.leave (.leave (.leave (.leave (.leave (.leave (.take (Pick.none _))))))))))), rfl⟩) (Src.cel (by repeat (first | exact List.Mem.head _ | apply List.Mem.tail)) (rc_len hk)) (ones_rc _) (by first | omega | (simp only [maxLen]; omega)) (by first | omega | (simp only [maxLen]; omega)) ?_
              intro ob2 cap2 ho2
              refine RL.appendA el_81 rfl rfl rfl rfl rfl rfl rfl (by first | exact ⟨(.take (Pick.none _)), rfl⟩ | exact ⟨(.leave (.take (Pick.none _))), rfl⟩ | exact ⟨(.leave (.leave (.take (Pick.none _)))), rfl⟩ | exact ⟨(.leave (.leave (.leave (.take (Pick.none _))))), rfl⟩ | exact ⟨(.leave (.leave (.leave (.leave (.take (Pick.none _)))))), rfl⟩ | exact ⟨(.leave (.leave (.leave (.leave (.leave (.take (Pick.none _))))))), rfl⟩ | exact ⟨(.leave (.leave (.leave (.leave (.leave (.leave (.take (Pick.none _)))))))), rfl⟩ | exact ⟨(.leave (.leave (.leave (.leave (.leave (.leave (.leave (.take (Pick.none _))))))))), rfl⟩ | exact ⟨(.leave (.leave (.leave (.leave (.leave (.leave (.leave (.leave (.take (Pick.none _)))))))))), rfl⟩ | exact ⟨(.leave (.leave (.leave (.leave (.leave (.leave (.leave (.leave (.leave (.take (Pick.none _))))))))))), rfl⟩) (hs2 (by repeat (first | exact List.Mem.head _ | apply List.Mem.tail))) (ones_rcs _) (by first | omega | (simp only [maxLen]; omega)) (by first | omega | (simp only [maxLen]; omega)) ?_
              intro ob3 cap3 ho3
              refine RL.nilCheck rfl rfl rfl rfl ?_
              refine RL.fieldAddr fa_83_0 rfl rfl rfl rfl ?_
              refine RL.store (vs := [_]) Tryz.sizeOf81 rfl rfl rfl rfl rfl rfl rfl rfl rfl (by repeat (first | exact Upd.here | apply Upd.there)) ?_
              refine RL.nil ?_
              refine NQ.seq ?_
              refine CW.only .nil ?_
              refine CW.seq ?_
              refine CW.region (ef := []) (bk := []) ?_
              refine RL.assign rfl rfl rfl rfl ?_
              refine RL.nil ?_
              refine NQ.seq ?_
              refine CW.ret ?_
              refine RQ.rea (fun _ h => h) (H' := [cel y [slO ob3 (0 + (i - 0) + 1 + (R.length - i)) cap3] 83, own ob3 cap3 131 35 (0 + (i - 0) + 1 + (R.length - i)) ([] ++ rcs (R.take i) ++ One.rc ⟨n, k, 1, -1, 0⟩ ++ rcs (R.drop i))]) (by repeat (first | exact Rea.nil | (apply Rea.cons; (solve | (repeat (first | exact Del.here | apply Del.there)))))) (RQ.post (res1 rfl rfl) (.keep (.keep .nil)) ⟨rfl, rfl, ob3, cap3, rput_fin hi hins y ob3 cap3⟩)
          ·
            refine RL.loadq Tryz.isAgg81 rfl rfl rfl rfl ?_
            refine RL.slice (lo := i) (hi := R.length) Tryz.runUnderlying81 Tryz.sizeOf131 rfl rfl rfl rfl rfl rfl (by omega) (by omega) ?_
            refine RL.fork ⟨?_, ?_, trivial⟩
            ·
              refine RL.appendA el_81 rfl rfl rfl rfl rfl rfl rfl (by first | exact ⟨(.take (Pick.none _)), rfl⟩ | exact ⟨(.leave (.take (Pick.none _))), rfl⟩ | exact ⟨(.leave (.leave (.take (Pick.none _)))), rfl⟩ | exact ⟨(.leave (.leave (.leave (.take (Pick.none _))))), rfl⟩ | exact ⟨(.leave (.leave (.leave (.leave (.take (Pick.none _)))))), rfl⟩ | exact ⟨(.leave (.leave (.leave (.leave (.leave (.take (Pick.none _))))))), rfl⟩ | exact ⟨(.leave (.leave (.leave (.leave (.leave (.leave (.take (Pick.none _)))))))), rfl⟩ | exact ⟨(.leave (.leave (.leave (.leave (.leave (.leave (.leave (.take (Pick.none _))))))))), rfl⟩ | exact ⟨(.leave (.leave (.leave (.leave (.leave (.leave (.leave (.leave (.take (Pick.none _)))))))))), rfl⟩ | exact ⟨(.leave (.leave (.leave (.leave (.leave (.leave (.leave (.leave (.leave (.take (Pick.none _))))))))))), rfl⟩) (hs1 (by repeat (first | exact List.Mem.head _ | apply List.Mem.tail))) (ones_rcs _) (by first | omega | (simp only [maxLen]; omega)) (by first | omega | (simp only [maxLen]; omega)) ?_
              intro ob1 cap1 ho1
              refine RL.buildSlice (One.rc ⟨n, k, 1, -1, 0⟩) Tryz.runUnderlying81 Tryz.sizeOf131 Tryz.zeroValue131 rfl rfl (by decide) (by decide) rfl rfl rfl rfl rfl (fill_one35 (rc_len hk) rfl) ?_
              intro b3
              refine RL.appendA el_81 rfl rfl rfl rfl rfl rfl rfl (by first | exact ⟨(.take (Pick.none _)), rfl⟩ | exact ⟨(.leave (.take (Pick.none _))), rfl⟩ | exact ⟨(.leave (.leave (.take (Pick.none _)))), rfl⟩ | exact ⟨(.leave (.leave (.leave (.take (Pick.none _))))), rfl⟩ | exact ⟨(.leave (.leave (.leave (.leave (.take (Pick.none _)))))), rfl⟩ | exact ⟨(.leave (.leave (.leave (.leave (.leave (.take (Pick.none _))))))), rfl⟩ | exact ⟨(.leave (.leave (.leave (.leave (.leave (.leave (.take (Pick.none _)))))))), rfl⟩ | exact ⟨(.leave (.leave (.leave (.leave (.leave (.leave (.leave (.take (Pick.none _))))))))), rfl⟩ | exact ⟨(.leave (.leave (.leave (.leave (.leave (.leave (.leave (.leave (.take (Pick.none _)))))))))), rfl⟩ | exact ⟨(.leave (.leave (.leave (.leave (.leave (.leave (.leave (.leave (.leave (.take (Pick.none _))))))))))), rfl⟩) (Src.cel (by repeat (first | exact List.Mem.head _ | apply List.Mem.tail)) (rc_len hk)) (ones_rc _) (by first | omega | (simp only [maxLen]; omega)) (by first | omega | (simp only [maxLen]; omega)) ?_
              intro ob2 cap2 ho2
              refine RL.appendA el_81 rfl rfl rfl rfl rfl rfl rfl (by first | exact ⟨(.take (Pick.none _)), rfl⟩ | exact ⟨(.leave (.take (Pick.none _))), rfl⟩ | exact ⟨(.leave (.leave (.take (Pick.none _)))), rfl⟩ | exact ⟨(.leave (.leave (.leave (.take (Pick.none _))))), rfl⟩ | exact ⟨(.leave (.leave (.leave (.leave (.take (Pick.none _)))))), rfl⟩ | exact ⟨(.leave (.leave (.leave (.leave (.leave (.take (Pick.none _))))))), rfl⟩ | exact ⟨(.leave (.leave (.leave (.leave (.leave (.leave (.take (Pick.none _)))))))), rfl⟩ | exact ⟨(.leave (.leave (.leave (.leave (.leave (.leave (.leave (.take (Pick.none _))))))))), rfl⟩ | exact ⟨(.leave (.leave (.leave (.leave (.leave (.leave (.leave (.leave (.take (Pick.none _)))))))))), rfl⟩ | exact ⟨(.leave (.leave (.leave (.leave (.leave (.leave (.leave (.leave (.leave (.take (Pick.none _))))))))))), rfl⟩) (hs2 (by repeat (first | exact List.Mem.head _ | apply List.Mem.tail))) (ones_rcs _) (by first | omega | (simp only [maxLen]; omega)) (by first | omega | (simp only [maxLen]; omega)) ?_
              intro ob3 cap3 ho3
              refine RL.nilCheck rfl rfl rfl rfl ?_
              refine RL.fieldAddr fa_83_0 rfl rfl rfl rfl ?_
              refine RL.store (vs := [_]) Tryz.sizeOf81 rfl rfl rfl rfl rfl rfl rfl rfl rfl (by repeat (first | exact Upd.here | apply Upd.there)) ?_
              refine RL.nil ?_
              refine NQ.seq ?_
              refine CW.only .nil ?_
              refine CW.seq ?_
              refine CW.region (ef := []) (bk := []) ?_
              refine RL.assign rfl rfl rfl rfl ?_
              refine RL.nil ?_
              refine NQ.seq ?_
              refine CW.ret ?_
              refine RQ.rea (fun _ h => h) (H' := [cel y [slO ob3 (0 + (i - 0) + 1 + (R.length - i)) cap3] 83, own ob3 cap3 131 35 (0 + (i - 0) + 1 + (R.length - i)) ([] ++ rcs (R.take i) ++ One.rc ⟨n, k, 1, -1, 0⟩ ++ rcs (R.drop i))]) (by repeat (first | exact Rea.nil | (apply Rea.cons; (solve | (repeat (first | exact Del.here | apply Del.there)))))) (RQ.post (res1 rfl rfl) (.keep (.keep .nil)) ⟨rfl, rfl, ob3, cap3, rput_fin hi hins y ob3 cap3⟩)
            ·
              refine RL.buildSlice (One.rc ⟨n, k, 1, -1, 0⟩) Tryz.runUnderlying81 Tryz.sizeOf131 Tryz.zeroValue131 rfl rfl (by decide) (by decide) rfl rfl rfl rfl rfl (fill_one35 (rc_len hk) rfl) ?_
              intro b3
              refine RL.appendA el_81 rfl rfl rfl rfl rfl rfl rfl (by first | exact ⟨(.take (Pick.none _)), rfl⟩ | exact ⟨(.leave (.take (Pick.none _))), rfl⟩ | exact ⟨(.leave (.leave (.take (Pick.none _)))), rfl⟩ | exact ⟨(.leave (.leave (.leave (.take (Pick.none _))))), rfl⟩ | exact ⟨(.leave (.leave (.leave (.leave (.take (Pick.none _)))))), rfl⟩ | exact ⟨(.leave (.leave (.leave (.leave (.leave (.take (Pick.none _))))))), rfl⟩ | exact ⟨(.leave (.leave (.leave (.leave (.leave (.leave (.take (Pick.none _)))))))), rfl⟩ | exact ⟨(.leave (.leave (.leave (.leave (.leave (.leave (.leave (.take (Pick.none _))))))))), rfl⟩ | exact ⟨(.leave (.leave (.leave (.leave (.leave (.leave (.leave (.leave (.take (Pick.none _)))))))))), rfl⟩ | exact ⟨(.leave (.leave (.leave (.leave (.leave (.leave (.leave (.leave (.leave (.take (Pick.none _))))))))))), rfl⟩) (hs1 (by repeat (first | exact List.Mem.head _ | apply List.Mem.tail))) (ones_rcs _) (by first | omega | (simp only [maxLen]; omega)) (by first | omega | (simp only [maxLen]; omega)) ?_
              intro ob1 cap1 ho1
              refine RL.appendA el_81 rfl rfl rfl rfl rfl rfl rfl (by first | exact ⟨(.take (Pick.none _)), rfl⟩ | exact ⟨(.leave (.take (Pick.none _))), rfl⟩ | exact ⟨(.leave (.leave (.take (Pick.none _)))), rfl⟩ | exact ⟨(.leave (.leave (.leave (.take (Pick.none _))))), rfl⟩ | exact ⟨(.leave (.leave (.leave (.leave (.take (Pick.none _)))))), rfl⟩ | exact ⟨(.leave (.leave (.leave (.leave (.leave (.take (Pick.none _))))))), rfl⟩ | exact ⟨(.leave (.leave (.leave (.leave (.leave (.leave (.take (Pick.none _)))))))), rfl⟩ | exact ⟨(.leave (.leave (.leave (.leave (.leave (.leave (.leave (.take (Pick.none _))))))))), rfl⟩ | exact ⟨(.leave (.leave (.leave (.leave (.leave (.leave (.leave (.leave (.take (Pick.none _)))))))))), rfl⟩ | exact ⟨(.leave (.leave (.leave (.leave (.leave (.leave (.leave (.leave (.leave (.take (Pick.none _))))))))))), rfl⟩) (Src.cel (by repeat (first | exact List.Mem.head _ | apply List.Mem.tail)) (rc_len hk)) (ones_rc _) (by first | omega | (simp only [maxLen]; omega)) (by first | omega | (simp only [maxLen]; omega)) ?_
              intro ob2 cap2 ho2
              refine RL.appendA el_81 rfl rfl rfl rfl rfl rfl rfl (by first | exact ⟨(.take (Pick.none _)), rfl⟩ | exact ⟨(.leave (.take (Pick.none _))), rfl⟩ | exact ⟨(.leave (.leave (.take (Pick.none _)))), rfl⟩ | exact ⟨(.leave (.leave (.leave (.take (Pick.none _))))), rfl⟩ | exact ⟨(.leave (.leave (.leave (.leave (.take (Pick.none _)))))), rfl⟩ | exact ⟨(.leave (.leave (.leave (.leave (.leave (.take (Pick.none _))))))), rfl⟩ | exact ⟨(.leave (.leave (.leave (.leave (.leave (.leave (.take (Pick.none _)))))))), rfl⟩ | exact ⟨(.leave (.leave (.leave (.leave (.leave (.leave (.leave (.take (Pick.none _))))))))), rfl⟩ | exact ⟨(.leave (.leave (.leave (.leave (.leave (.leave (.leave (.leave (.take (Pick.none _)))))))))), rfl⟩ | exact ⟨(.leave (.leave (.leave (.leave (.leave (.leave (.leave (.leave (.leave (.take (Pick.none _))))))))))), rfl⟩) (hs2 (by repeat (first | exact List.Mem.head _ | apply List.Mem.tail))) (ones_rcs _) (by first | omega | (simp only [maxLen]; omega)) (by first | omega | (simp only [maxLen]; omega)) ?_
              intro ob3 cap3 ho3
              refine RL.nilCheck rfl rfl rfl rfl ?_
              refine RL.fieldAddr fa_83_0 rfl rfl rfl rfl ?_
              refine RL.store (vs := [_]) Tryz.sizeOf81 rfl rfl rfl rfl rfl rfl rfl rfl rfl (by repeat (first | exact Upd.here | apply Upd.there)) ?_
              refine RL.nil ?_
              refine NQ.seq ?_
              refine CW.only .nil ?_
              refine CW.seq ?_
              refine CW.region (ef := []) (bk := []) ?_
              refine RL.assign rfl rfl rfl rfl ?_
              refine RL.nil ?_
              refine NQ.seq ?_
              refine CW.ret ?_
              refine RQ.rea (fun _ h => h) (H' := [cel y [slO ob3 (0 + (i - 0) + 1 + (R.length - i)) cap3] 83, own ob3 cap3 131 35 (0 + (i - 0) + 1 + (R.length - i)) ([] ++ rcs (R.take i) ++ One.rc ⟨n, k, 1, -1, 0⟩ ++ rcs (R.drop i))]) (by repeat (first | exact Rea.nil | (apply Rea.cons; (solve | (repeat (first | exact Del.here | apply Del.there)))))) (RQ.post (res1 rfl rfl) (.keep (.keep .nil)) ⟨rfl, rfl, ob3, cap3, rput_fin hi hins y ob3 cap3⟩)
        ·
          refine RL.buildSlice (One.rc ⟨n, k, 1, -1, 0⟩) Tryz.runUnderlying81 Tryz.sizeOf131 Tryz.zeroValue131 rfl rfl (by decide) (by decide) rfl rfl rfl rfl rfl (fill_one35 (rc_len hk) rfl) ?_
          intro b3
          refine RL.fork ⟨?_, ?_, trivial⟩
          ·
            refine RL.buildOwn [] Tryz.runUnderlying81 Tryz.sizeOf131 Tryz.zeroValue131 rfl rfl (by decide) (by decide) rfl (by decide) rfl rfl rfl rfl rfl rfl ?_
            intro b2
            refine RL.fork ⟨?_, ?_, trivial⟩
            ·
              refine RL.appendA el_81 rfl rfl rfl rfl rfl rfl rfl (by first | exact ⟨(.take (Pick.none _)), rfl⟩ | exact ⟨(.leave (.take (Pick.none _))), rfl⟩ | exact ⟨(.leave (.leave (.take (Pick.none _)))), rfl⟩ | exact ⟨(.leave (.leave (.leave (.take (Pick.none _))))), rfl⟩ | exact ⟨(.leave (.leave (.leave (.leave (.take (Pick.none _)))))), rfl⟩ | exact ⟨(.leave (.leave (.leave (.leave (.leave (.take (Pick.none _))))))), rfl⟩ | exact ⟨(.leave (.leave (.leave (.leave (.leave (.leave (.take (Pick.none _)))))))), rfl⟩ | exact ⟨(.leave (.leave (.leave (.leave (.leave (.leave (.leave (.take (Pick.none _))))))))), rfl⟩ | exact ⟨(.leave (.leave (.leave (.leave (.leave (.leave (.leave (.leave (.take (Pick.none _)))))))))), rfl⟩ | exact ⟨(.leave (.leave (.leave (.leave (.leave (.leave (.leave (.leave (.leave (.take (Pick.none _))))))))))), rfl⟩) (hs1 (by repeat (first | exact List.Mem.head _ | apply List.Mem.tail))) (ones_rcs _) (by first | omega | (simp only [maxLen]; omega)) (by first | omega | (simp only [maxLen]; omega)) ?_
              intro ob1 cap1 ho1
              refine RL.fork ⟨?_, ?_, trivial⟩
              ·
                refine RL.appendA el_81 rfl rfl rfl rfl rfl rfl rfl (by first | exact ⟨(.take (Pick.none _)), rfl⟩ | exact ⟨(.leave (.take (Pick.none _))), rfl⟩ | exact ⟨(.leave (.leave (.take (Pick.none _)))), rfl⟩ | exact ⟨(.leave (.leave (.leave (.take (Pick.none _))))), rfl⟩ | exact ⟨(.leave (.leave (.leave (.leave (.take (Pick.none _)))))), rfl⟩ | exact ⟨(.leave (.leave (.leave (.leave (.leave (.take (Pick.none _))))))), rfl⟩ | exact ⟨(.leave (.leave (.leave (.leave (.leave (.leave (.take (Pick.none _)))))))), rfl⟩ | exact ⟨(.leave (.leave (.leave (.leave (.leave (.leave (.leave (.take (Pick.none _))))))))), rfl⟩ | exact ⟨(.leave (.leave (.leave (.leave (.leave (.leave (.leave (.leave (.take (Pick.none _)))))))))), rfl⟩ | exact ⟨(.leave (.leave (.leave (.leave (.leave (.leave (.leave (.leave (.leave (.take (Pick.none _))))))))))), rfl⟩) (Src.cel (by repeat (first | exact List.Mem.head _ | apply List.Mem.tail)) (rc_len hk)) (ones_rc _) (by first | omega | (simp only [maxLen]; omega)) (by first | omega | (simp only [maxLen]; omega)) ?_
                intro ob2 cap2 ho2
                refine RL.loadq Tryz.isAgg81 rfl rfl rfl rfl ?_
                refine RL.slice (lo := i) (hi := R.length) Tryz.runUnderlying81 Tryz.sizeOf131 rfl rfl rfl rfl rfl rfl (by omega) (by omega) ?_
                refine RL.appendA el_81 rfl rfl rfl rfl rfl rfl rfl (by first | exact ⟨(.take (Pick.none _)), rfl⟩ | exact ⟨(.leave (.take (Pick.none _))), rfl⟩ | exact ⟨(.leave (.leave (.take (Pick.none _)))), rfl⟩ | exact ⟨(.leave (.leave (.leave (.take (Pick.none _))))), rfl⟩ | exact ⟨(.leave (.leave (.leave (.leave (.take (Pick.none _)))))), rfl⟩ | exact ⟨(.leave (.leave (.leave (.leave (.leave (.take (Pick.none _))))))), rfl⟩ | exact ⟨(.leave (.leave (.leave (.leave (.leave (.leave (.take (Pick.none _)))))))), rfl⟩ | exact ⟨(.leave (.leave (.leave (.leave (.leave (.leave (.leave (.take (Pick.none _))))))))), rfl⟩ | exact ⟨(.leave (.leave (.leave (.leave (.leave (.leave (.leave (.leave (.take (Pick.none _)))))))))), rfl⟩ | exact ⟨(.leave (.leave (.leave (.leave (.leave (.leave (.leave (.leave (.leave (.take (Pick.none _))))))))))), rfl⟩) (hs2 (by repeat (first | exact List.Mem.head _ | apply List.Mem.tail))) (ones_rcs _) (by first | omega | (simp only [maxLen]; omega)) (by first | omega | (simp only [maxLen]; omega)) ?_
                intro ob3 cap3 ho3
                refine RL.nilCheck rfl rfl rfl rfl ?_
                refine RL.fieldAddr fa_83_0 rfl rfl rfl rfl ?_
                refine RL.store (vs := [_]) Tryz.sizeOf81 rfl rfl rfl rfl rfl rfl rfl rfl rfl (by repeat (first | exact Upd.here | apply Upd.there)) ?_
                refine RL.nil ?_
                refine NQ.seq ?_
                refine CW.only .nil ?_
                refine CW.seq ?_
                refine CW.region (ef := []) (bk := []) ?_
                refine RL.assign rfl rfl rfl rfl ?_
                refine RL.nil ?_
                refine NQ.seq ?_
                refine CW.ret ?_
                refine RQ.rea (fun _ h => h) (H' := [cel y [slO ob3 (0 + (i - 0) + 1 + (R.length - i)) cap3] 83, own ob3 cap3 131 35 (0 + (i - 0) + 1 + (R.length - i)) ([] ++ rcs (R.take i) ++ One.rc ⟨n, k, 1, -1, 0⟩ ++ rcs (R.drop i))]) (by repeat (first | exact Rea.nil | (apply Rea.cons; (solve | (repeat (first | exact Del.here | apply Del.there)))))) (RQ.post (res1 rfl rfl) (.keep (.keep .nil)) ⟨rfl, rfl, ob3, cap3, rput_fin hi hins y ob3 cap3⟩)
              ·
                refine RL.loadq Tryz.isAgg81 rfl rfl rfl rfl ?_
                refine RL.slice (lo := i) (hi := R.length) Tryz.runUnderlying81 Tryz.sizeOf131 rfl rfl rfl rfl rfl rfl (by omega) (by omega) ?_
                refine RL.appendA el_81 rfl rfl rfl rfl rfl rfl rfl (by first | exact ⟨(.take (Pick.none _)), rfl⟩ | exact ⟨(.leave (.take (Pick.none _))), rfl⟩ | exact ⟨(.leave (.leave (.take (Pick.none _)))), rfl⟩ | exact ⟨(.leave (.leave (.leave (.take (Pick.none _))))), rfl⟩ | exact ⟨(.leave (.leave (.leave (.leave (.take (Pick.none _)))))), rfl⟩ | exact ⟨(.leave (.leave (.leave (.leave (.leave (.take (Pick.none _))))))), rfl⟩ | exact ⟨(.leave (.leave (.leave (.leave (.leave (.leave (.take (Pick.none _)))))))), rfl⟩ | exact ⟨(.leave (.leave (.leave (.leave (.leave (.leave (.leave (.take (Pick.none _))))))))), rfl⟩ | exact ⟨(.leave (.leave (.leave (.leave (.leave (.leave (.leave (.leave (.take (Pick.none _)))))))))), rfl⟩ | exact ⟨(.leave (.leave (.leave (.leave (.leave (.leave (.leave (.leave (.leave (.take (Pick.none _))))))))))), rfl⟩) (Src.cel (by repeat (first | exact List.Mem.head _ | apply List.Mem.tail)) (rc_len hk)) (ones_rc _) (by first | omega | (simp only [maxLen]; omega)) (by first | omega | (simp only [maxLen]; omega)) ?_
                intro ob2 cap2 ho2
                refine RL.appendA el_81 rfl rfl rfl rfl rfl rfl rfl (by first | exact ⟨(.take (Pick.none _)), rfl⟩ | exact ⟨(.leave (.take (Pick.none _))), rfl⟩ | exact ⟨(.leave (.leave (.take (Pick.none _)))), rfl⟩ | exact ⟨(.leave (.leave (.leave (.take (Pick.none _))))), rfl⟩ | exact ⟨(.leave (.leave (.leave (.leave (.take (Pick.none _)))))), rfl⟩ | exact ⟨(.leave (.leave (.leave (.leave (.leave (.take (Pick.none _))))))), rfl⟩ | exact ⟨(.leave (.leave (.leave (.leave (.leave (.leave (.take (Pick.none _)))))))), rfl⟩ | exact ⟨(.leave (.leave (.leave (.leave (.leave (.leave (.leave (.take (Pick.none _))))))))), rfl⟩ | exact ⟨(.leave (.leave (.leave (.leave (.leave (.leave (.leave (.leave (.take (Pick.none _)))))))))), rfl⟩ | exact ⟨(.leave (.leave (.leave (.leave (.leave (.leave (.leave (.leave (.leave (.take (Pick.none _))))))))))), rfl⟩) (hs2 (by repeat (first | exact List.Mem.head _ | apply List.Mem.tail))) (ones_rcs _) (by first | omega | (simp only [maxLen]; omega)) (by first | omega | (simp only [maxLen]; omega)) ?_
                intro ob3 cap3 ho3
                refine RL.nilCheck rfl rfl rfl rfl ?_
                refine RL.fieldAddr fa_83_0 rfl rfl rfl rfl ?_
                refine RL.store (vs := [_]) Tryz.sizeOf81 rfl rfl rfl rfl rfl rfl rfl rfl rfl (by repeat (first | exact Upd.here | apply Upd.there)) ?_
                refine RL.nil ?_
                refine NQ.seq ?_
                refine CW.only .nil ?_
                refine CW.seq ?_
                refine CW.region (ef := []) (bk := []) ?_
                refine RL.assign rfl rfl rfl rfl ?_
                refine RL.nil ?_
                refine NQ.seq ?_
                refine CW.ret ?_
                refine RQ.rea (fun _ h => h) (H' := [cel y [slO ob3 (0 + (i - 0) + 1 + (R.length - i)) cap3] 83, own ob3 cap3 131 35 (0 + (i - 0) + 1 + (R.length - i)) ([] ++ rcs (R.take i) ++ One.rc ⟨n, k, 1, -1, 0⟩ ++ rcs (R.drop i))]) (by repeat (first | exact Rea.nil | (apply Rea.cons; (solve | (repeat (first | exact Del.here | apply Del.there)))))) (RQ.post (res1 rfl rfl) (.keep (.keep .nil)) ⟨rfl, rfl, ob3, cap3, rput_fin hi hins y ob3 cap3⟩)
            ·
              refine RL.loadq Tryz.isAgg81 rfl rfl rfl rfl ?_
              refine RL.slice (lo := i) (hi := R.length) Tryz.runUnderlying81 Tryz.sizeOf131 rfl rfl rfl rfl rfl rfl (by omega) (by omega) ?_
              refine RL.appendA el_81 rfl rfl rfl rfl rfl rfl rfl (by first | exact ⟨(.take (Pick.none _)), rfl⟩ | exact ⟨(.leave (.take (Pick.none _))), rfl⟩ | exact ⟨(.leave (.leave (.take (Pick.none _)))), rfl⟩ | exact ⟨(.leave (.leave (.leave (.take (Pick.none _))))), rfl⟩ | exact ⟨(.leave (.leave (.leave (.leave (.take (Pick.none _)))))), rfl⟩ | exact ⟨(.leave (.leave (.leave (.leave (.leave (.take (Pick.none _))))))), rfl⟩ | exact ⟨(.leave (.leave (.leave (.leave (.leave (.leave (.take (Pick.none _)))))))), rfl⟩ | exact ⟨(.leave (.leave (.leave (.leave (.leave (.leave (.leave (.take (Pick.none _))))))))), rfl⟩ | exact ⟨(.leave (.leave (.leave (.leave (.leave (.leave (.leave (.leave (.take (Pick.none _)))))))))), rfl⟩ | exact ⟨(.leave (.leave (.leave (.leave (.leave (.leave (.leave (.leave (.leave (.take (Pick.none _))))))))))), rfl⟩) (hs1 (by repeat (first | exact List.Mem.head _ | apply List.Mem.tail))) (ones_rcs _) (by first | omega | (simp only [maxLen]; omega)) (by first | omega | (simp only [maxLen]; omega)) ?_
              intro ob1 cap1 ho1
              refine RL.appendA el_81 rfl rfl rfl rfl rfl rfl rfl (by first | exact ⟨(.take (Pick.none _)), rfl⟩ | exact ⟨(.leave (.take (Pick.none _))), rfl⟩ | exact ⟨(.leave (.leave (.take (Pick.none _)))), rfl⟩ | exact ⟨(.leave (.leave (.leave (.take (Pick.none _))))), rfl⟩ | exact ⟨(.leave (.leave (.leave (.leave (.take (Pick.none _)))))), rfl⟩ | exact ⟨(.leave (.leave (.leave (.leave (.leave (.take (Pick.none _))))))), rfl⟩ | exact ⟨(.leave (.leave (.leave (.leave (.leave (.leave (.take (Pick.none _)))))))), rfl⟩ | exact ⟨(.leave (.leave (.leave (.leave (.leave (.leave (.leave (.take (Pick.none _))))))))), rfl⟩ | exact ⟨(.leave (.leave (.leave (.leave (.leave (.leave (.leave (.leave (.take (Pick.none _)))))))))), rfl⟩ | exact ⟨(.leave (.leave (.leave (.leave (.leave (.leave (.leave (.leave (.leave (.take (Pick.none _))))))))))), rfl⟩) (Src.cel (by repeat (first | exact List.Mem.head _ | apply List.Mem.tail)) (rc_len hk)) (ones_rc _) (by first | omega | (simp only [maxLen]; omega)) (by first | omega | (simp only [maxLen]; omega)) ?_
              intro ob2 cap2 ho2
              refine RL.appendA el_81 rfl rfl rfl rfl rfl rfl rfl (by first | exact ⟨(.take (Pick.none _)), rfl⟩ | exact ⟨(.leave (.take (Pick.none _))), rfl⟩ | exact ⟨(.leave (.leave (.take (Pick.none _)))), rfl⟩ | exact ⟨(.leave (.leave (.leave (.take (Pick.none _))))), rfl⟩ | exact ⟨(.leave (.leave (.leave (.leave (.take (Pick.none _)))))), rfl⟩ | exact ⟨(.leave (.leave (.leave (.leave (.leave (.take (Pick.none _))))))), rfl⟩ | exact ⟨(.leave (.leave (.leave (.leave (.leave (.leave (.take (Pick.none _)))))))), rfl⟩ | exact ⟨(.leave (.leave (.leave (.leave (.leave (.leave (.leave (.take (Pick.none _))))))))), rfl⟩ | exact ⟨(.leave (.leave (.leave (.leave (.leave (.leave (.leave (.leave (.take (Pick.none _)))))))))), rfl⟩ | exact ⟨(.leave (.leave (.leave (.leave (.leave (.leave (.leave (.leave (.leave (.take (Pick.none _))))))))))), rfl⟩) (hs2 (by repeat (first | exact List.Mem.head _ | apply List.Mem.tail))) (ones_rcs _) (by first | omega | (simp only [maxLen]; omega)) (by first | omega | (simp only [maxLen]; omega)) ?_
              intro ob3 cap3 ho3
              refine RL.nilCheck rfl rfl rfl rfl ?_
              refine RL.fieldAddr fa_83_0 rfl rfl rfl rfl ?_
              refine RL.store (vs := [_]) Tryz.sizeOf81 rfl rfl rfl rfl rfl rfl rfl rfl rfl (by repeat (first | exact Upd.here | apply Upd.there)) ?_
              refine RL.nil ?_
              refine NQ.seq ?_
              refine CW.only .nil ?_
              refine CW.seq ?_
              refine CW.region (ef := []) (bk := []) ?_
              refine RL.assign rfl rfl rfl rfl ?_
              refine RL.nil ?_
              refine NQ.seq ?_
              refine CW.ret ?_
              refine RQ.rea (fun _ h => h) (H' := [cel y [slO ob3 (0 + (i - 0) + 1 + (R.length - i)) cap3] 83, own ob3 cap3 131 35 (0 + (i - 0) + 1 + (R.length - i)) ([] ++ rcs (R.take i) ++ One.rc ⟨n, k, 1, -1, 0⟩ ++ rcs (R.drop i))]) (by repeat (first | exact Rea.nil | (apply Rea.cons; (solve | (repeat (first | exact Del.here | apply Del.there)))))) (RQ.post (res1 rfl rfl) (.keep (.keep .nil)) ⟨rfl, rfl, ob3, cap3, rput_fin hi hins y ob3 cap3⟩)
          ·
            refine RL.loadq Tryz.isAgg81 rfl rfl rfl rfl ?_
            refine RL.slice (lo := i) (hi := R.length) Tryz.runUnderlying81 Tryz.sizeOf131 rfl rfl rfl rfl rfl rfl (by omega) (by omega) ?_
            refine RL.buildOwn [] Tryz.runUnderlying81 Tryz.sizeOf131 Tryz.zeroValue131 rfl rfl (by decide) (by decide) rfl (by decide) rfl rfl rfl rfl rfl rfl ?_
            intro b2
            refine RL.appendA el_81 rfl rfl rfl rfl rfl rfl rfl (by first | exact ⟨(.take (Pick.none _)), rfl⟩ | exact ⟨(.leave (.take (Pick.none _))), rfl⟩ | exact ⟨(.leave (.leave (.take (Pick.none _)))), rfl⟩ | exact ⟨(.leave (.leave (.leave (.take (Pick.none _))))), rfl⟩ | exact ⟨(.leave (.leave (.leave (.leave (.take (Pick.none _)))))), rfl⟩ | exact ⟨(.leave (.leave (.leave (.leave (.leave (.take (Pick.none _))))))), rfl⟩ | exact ⟨(.leave (.leave (.leave (.leave (.leave (.leave (.take (Pick.none _)))))))), rfl⟩ | exact ⟨(.leave (.leave (.leave (.leave (.leave (.leave (.leave (.take (Pick.none _))))))))), rfl⟩ | exact ⟨(.leave (.leave (.leave (.leave (.leave (.leave (.leave (.leave (.take (Pick.none _)))))))))), rfl⟩ | exact ⟨(.leave (.leave (.leave (.leave (.leave (.leave (.leave (.leave (.leave (.take (Pick.none _))))))))))), rfl⟩) (hs1 (by repeat (first | exact List.Mem.head _ | apply List.Mem.tail))) (ones_rcs _) (by first | omega | (simp only [maxLen]; omega)) (by first | omega | (simp only [maxLen]; omega)) ?_
            intro ob1 cap1 ho1
            refine RL.appendA el_81 rfl rfl rfl rfl rfl rfl rfl (by first | exact ⟨(.take (Pick.none _)), rfl⟩ | exact ⟨(.leave (.take (Pick.none _))), rfl⟩ | exact ⟨(.leave (.leave (.take (Pick.none _)))), rfl⟩ | exact ⟨(.leave (.leave (.leave (.take (Pick.none _))))), rfl⟩ | exact ⟨(.leave (.leave (.leave (.leave (.take (Pick.none _)))))), rfl⟩ | exact ⟨(.leave (.leave (.leave (.leave (.leave (.take (Pick.none _))))))), rfl⟩ | exact ⟨(.leave (.leave (.leave (.leave (.leave (.leave (.take (Pick.none _)))))))), rfl⟩ | exact ⟨(.leave (.leave (.leave (.leave (.leave (.leave (.leave (.take (Pick.none _))))))))), rfl⟩ | exact ⟨(.leave (.leave (.leave (.leave (.leave (.leave (.leave (.leave (.take (Pick.none _)))))))))), rfl⟩ | exact ⟨(.leave (.leave (.leave (.leave (.leave (.leave (.leave (.leave (.leave (.take (Pick.none _))))))))))), rfl⟩) (Src.cel (by repeat (first | exact List.Mem.head _ | apply List.Mem.tail)) (rc_len hk)) (ones_rc _) (by first | omega | (simp only [maxLen]; omega)) (by first | omega | (simp only [maxLen]; omega)) ?_
            intro ob2 cap2 ho2
            refine RL.appendA el_81 rfl rfl rfl rfl rfl rfl rfl (by first | exact ⟨(.take (Pick.none _)), rfl⟩ | exact ⟨(.leave (.take (Pick.none _))), rfl⟩ | exact ⟨(.leave (.leave (.take (Pick.none _)))), rfl⟩ | exact ⟨(.leave (.leave (.leave (.take (Pick.none _))))), rfl⟩ | exact ⟨(.leave (.leave (.leave (.leave (.take (Pick.none _)))))), rfl⟩ | exact ⟨(.leave (.leave (.leave (.leave (.leave (.take (Pick.none _))))))), rfl⟩ | exact ⟨(.leave (.leave (.leave (.leave (.leave (.leave (.take (Pick.none _)))))))), rfl⟩ | exact ⟨(.leave (.leave (.leave (.leave (.leave (.leave (.leave (.take (Pick.none _))))))))), rfl⟩ | exact ⟨(.leave (.leave (.leave (.leave (.leave (.leave (.leave (.leave (.take (Pick.none _)))))))))), rfl⟩ | exact ⟨(.leave (.leave (.leave (.leave (.leave (.leave (.leave (.leave (.leave (.take (Pick.none _))))))))))), rfl⟩) (hs2 (by repeat (first | exact List.Mem.head _ | apply List.Mem.tail))) (ones_rcs _) (by first | omega | (simp only [maxLen]; omega)) (by first | omega | (simp only [maxLen]; omega)) ?_
            intro ob3 cap3 ho3
            refine RL.nilCheck rfl rfl rfl rfl ?_
            refine RL.fieldAddr fa_83_0 rfl rfl rfl rfl ?_
            refine RL.store (vs := [_]) Tryz.sizeOf81 rfl rfl rfl rfl rfl rfl rfl rfl rfl (by repeat (first | exact Upd.here | apply Upd.there)) ?_
            refine RL.nil ?_
            refine NQ.seq ?_
            refine CW.only .nil ?_
            refine CW.seq ?_
            refine CW.region (ef := []) (bk := []) ?_
            refine RL.assign rfl rfl rfl rfl ?_
            refine RL.nil ?_
            refine NQ.seq ?_
            refine CW.ret ?_
            refine RQ.rea (fun _ h => h) (H' := [cel y [slO ob3 (0 + (i - 0) + 1 + (R.length - i)) cap3] 83, own ob3 cap3 131 35 (0 + (i - 0) + 1 + (R.length - i)) ([] ++ rcs (R.take i) ++ One.rc ⟨n, k, 1, -1, 0⟩ ++ rcs (R.drop i))]) (by repeat (first | exact Rea.nil | (apply Rea.cons; (solve | (repeat (first | exact Del.here | apply Del.there)))))) (RQ.post (res1 rfl rfl) (.keep (.keep .nil)) ⟨rfl, rfl, ob3, cap3, rput_fin hi hins y ob3 cap3⟩)
        ·
          refine RL.loadq Tryz.isAgg81 rfl rfl rfl rfl ?_
          refine RL.slice (lo := i) (hi := R.length) Tryz.runUnderlying81 Tryz.sizeOf131 rfl rfl rfl rfl rfl rfl (by omega) (by omega) ?_
          refine RL.fork ⟨?_, ?_, trivial⟩
          ·
            refine RL.buildOwn [] Tryz.runUnderlying81 Tryz.sizeOf131 Tryz.zeroValue131 rfl rfl (by decide) (by decide) rfl (by decide) rfl rfl rfl rfl rfl rfl ?_
            intro b2
            refine RL.fork ⟨?_, ?_, trivial⟩
            ·
              refine RL.appendA el_81 rfl rfl rfl rfl rfl rfl rfl (by first | exact ⟨(.take (Pick.none _)), rfl⟩ | exact ⟨(.leave (.take (Pick.none _))), rfl⟩ | exact ⟨(.leave (.leave (.take (Pick.none _)))), rfl⟩ | exact ⟨(.leave (.leave (.leave (.take (Pick.none _))))), rfl⟩ | exact ⟨(.leave (.leave (.leave (.leave (.take (Pick.none _)))))), rfl⟩ | exact ⟨(.leave (.leave (.leave (.leave (.leave (.take (Pick.none _))))))), rfl⟩ | exact ⟨(.leave (.leave (.leave (.leave (.leave (.leave (.take (Pick.none _)))))))), rfl⟩ | exact ⟨(.leave (.leave (.leave (.leave (.leave (.leave (.leave (.take (Pick.none _))))))))), rfl⟩ | exact ⟨(.leave (.leave (.leave (.leave (.leave (.leave (.leave (.leave (.take (Pick.none _)))))))))), rfl⟩ | exact ⟨(.leave (.leave (.leave (.leave (.leave (.leave (.leave (.leave (.leave (.take (Pick.none _))))))))))), rfl⟩) (hs1 (by repeat (first | exact List.Mem.head _ | apply List.Mem.tail))) (ones_rcs _) (by first | omega | (simp only [maxLen]; omega)) (by first | omega | (simp only [maxLen]; omega)) ?_
              intro ob1 cap1 ho1
              refine RL.buildSlice (One.rc ⟨n, k, 1, -1, 0⟩) Tryz.runUnderlying81 Tryz.sizeOf131 Tryz.zeroValue131 rfl rfl (by decide) (by decide) rfl rfl rfl rfl rfl (fill_one35 (rc_len hk) rfl) ?_
              intro b3
              refine RL.appendA el_81 rfl rfl rfl rfl rfl rfl rfl (by first | exact ⟨(.take (Pick.none _)), rfl⟩ | exact ⟨(.leave (.take (Pick.none _))), rfl⟩ | exact ⟨(.leave (.leave (.take (Pick.none _)))), rfl⟩ | exact ⟨(.leave (.leave (.leave (.take (Pick.none _))))), rfl⟩ | exact ⟨(.leave (.leave (.leave (.leave (.take (Pick.none _)))))), rfl⟩ | exact ⟨(.leave (.leave (.leave (.leave (.leave (.take (Pick.none _))))))), rfl⟩ | exact ⟨(.leave (.leave (.leave (.leave (.leave (.leave (.take (Pick.none _)))))))), rfl⟩ | exact ⟨(.leave (.leave (.leave (.leave (.leave (.leave (.leave (.take (Pick.none _))))))))), rfl⟩ | exact ⟨(.leave (.leave (.leave (.leave (.leave (.leave (.leave (.leave (.take (Pick.none _)))))))))), rfl⟩ | exact ⟨(.leave (.leave (.leave (.leave (.leave (.leave (.leave (.leave (.leave (.take (Pick.none _))))))))))), rfl⟩) (Src.cel (by repeat (first | exact List.Mem.head _ | apply List.Mem.tail)) (rc_len hk)) (ones_rc _) (by first | omega | (simp only [maxLen]; omega)) (by first | omega | (simp only [maxLen]; omega)) ?_
              intro ob2 cap2 ho2
              refine RL.appendA el_81 rfl rfl rfl rfl rfl rfl rfl (by first | exact ⟨(.take (Pick.none _)), rfl⟩ | exact ⟨(.leave (.take (Pick.none _))), rfl⟩ | exact ⟨(.leave (.leave (.take (Pick.none _)))), rfl⟩ | exact ⟨(.leave (.leave (.leave (.take (Pick.none _))))), rfl⟩ | exact ⟨(.leave (.leave (.leave (.leave (.take (Pick.none _)))))), rfl⟩ | exact ⟨(.leave (.leave (.leave (.leave (.leave (.take (Pick.none _))))))), rfl⟩ | exact ⟨(.leave (.leave (.leave (.leave (.leave (.leave (.take (Pick.none _)))))))), rfl⟩ | exact ⟨(.leave (.leave (.leave (.leave (.leave (.leave (.leave (.take (Pick.none _))))))))), rfl⟩ | exact ⟨(.leave (.leave (.leave (.leave (.leave (.leave (.leave (.leave (.take (Pick.none _)))))))))), rfl⟩ | exact ⟨(.leave (.leave (.leave (.leave (.leave (.leave (.leave (.leave (.leave (.take (Pick.none _))))))))))), rfl⟩) (hs2 (by repeat (first | exact List.Mem.head _ | apply List.Mem.tail))) (ones_rcs _) (by first | omega | (simp only [maxLen]; omega)) (by first | omega | (simp only [maxLen]; omega)) ?_
              intro ob3 cap3 ho3
              refine RL.nilCheck rfl rfl rfl rfl ?_
              refine RL.fieldAddr fa_83_0 rfl rfl rfl rfl ?_
              refine RL.store (vs := [_]) Tryz.sizeOf81 rfl rfl rfl rfl rfl rfl rfl rfl rfl (by repeat (first | exact Upd.here | apply Upd.there)) ?_
              refine RL.nil ?_
              refine NQ.seq ?_
              refine CW.only .nil ?_
              refine CW.seq ?_
              refine CW.region (ef := []) (bk := []) ?_
              refine RL.assign rfl rfl rfl rfl ?_
              refine RL.nil ?_
              refine NQ.seq ?_
              refine CW.ret ?_
              refine RQ.rea (fun _ h => h) (H' := [cel y [slO ob3 (0 + (i - 0) + 1 + (R.length - i)) cap3] 83, own ob3 cap3 131 35 (0 + (i - 0) + 1 + (R.length - i)) ([] ++ rcs (R.take i) ++ One.rc ⟨n, k, 1, -1, 0⟩ ++ rcs (R.drop i))]) (by repeat (first | exact Rea.nil | (apply Rea.cons; (solve | (repeat (first | exact Del.here | apply Del.there)))))) (RQ.post (res1 rfl rfl) (.keep (.keep .nil)) ⟨rfl, rfl, ob3, cap3, rput_fin hi hins y ob3 cap3⟩)
            ·
              refine RL.buildSlice (One.rc ⟨n, k, 1, -1, 0⟩) Tryz.runUnderlying81 Tryz.sizeOf131 Tryz.zeroValue131 rfl rfl (by decide) (by decide) rfl rfl rfl rfl rfl (fill_one35 (rc_len hk) rfl) ?_
              intro b3
              refine RL.appendA el_81 rfl rfl rfl rfl rfl rfl rfl (by first | exact ⟨(.take (Pick.none _)), rfl⟩ | exact ⟨(.leave (.take (Pick.none _))), rfl⟩ | exact ⟨(.leave (.leave (.take (Pick.none _)))), rfl⟩ | exact ⟨(.leave (.leave (.leave (.take (Pick.none _))))), rfl⟩ | exact ⟨(.leave (.leave (.leave (.leave (.take (Pick.none _)))))), rfl⟩ | exact ⟨(.leave (.leave (.leave (.leave (.leave (.take (Pick.none _))))))), rfl⟩ | exact ⟨(.leave (.leave (.leave (.leave (.leave (.leave (.take (Pick.none _)))))))), rfl⟩ | exact ⟨(.leave (.leave (.leave (.leave (.leave (.leave (.leave (.take (Pick.none _))))))))), rfl⟩ | exact ⟨(.leave (.leave (.leave (.leave (.leave (.leave (.leave (.leave (.take (Pick.none _)))))))))), rfl⟩ | exact ⟨(.leave (.leave (.leave (.leave (.leave (.leave (.leave (.leave (.leave (.take (Pick.none _))))))))))), rfl⟩) (hs1 (by repeat (first | exact List.Mem.head _ | apply List.Mem.tail))) (ones_rcs _) (by first | omega | (simp only [maxLen]; omega)) (by first | omega | (simp only [maxLen]; omega)) ?_
              intro ob1 cap1 ho1
              refine RL.appendA el_81 rfl rfl rfl rfl rfl rfl rfl (by first | exact ⟨(.take (Pick.none _)), rfl⟩ | exact ⟨(.leave (.take (Pick.none _))), rfl⟩ | exact ⟨(.leave (.leave (.take (Pick.none _)))), rfl⟩ | exact ⟨(.leave (.leave (.leave (.take (Pick.none _))))), rfl⟩ | exact ⟨(.leave (.leave (.leave (.leave (.take (Pick.none _)))))), rfl⟩ | exact ⟨(.leave (.leave (.leave (.leave (.leave (.take (Pick.none _))))))), rfl⟩ | exact ⟨(.leave (.leave (.leave (.leave (.leave (.leave (.take (Pick.none _)))))))), rfl⟩ | exact ⟨(.leave (.leave (.leave (.leave (.leave (.leave (.leave (.take (Pick.none _))))))))), rfl⟩ | exact ⟨(.leave (.leave (.leave (.leave (.leave (.leave (.leave (.leave (.take (Pick.none _)))))))))), rfl⟩ | exact ⟨(.leave (.leave (.leave (.leave (.leave (.leave (.leave (.leave (.leave (.take (Pick.none _))))))))))), rfl⟩) (Src.cel (by repeat (first | exact List.Mem.head _ | apply List.Mem.tail)) (rc_len hk)) (ones_rc _) (by first | omega | (simp only [maxLen]; omega)) (by first | omega | (simp only [maxLen]; omega)) ?_
              intro ob2 cap2 ho2
              refine RL.appendA el_81 rfl rfl rfl rfl rfl rfl rfl (by first | exact ⟨(.take (Pick.none _)), rfl⟩ | exact ⟨(.leave (.take (Pick.none _))), rfl⟩ | exact ⟨(.leave (.leave (.take (Pick.none _)))), rfl⟩ | exact ⟨(.leave (.leave (.leave (.take (Pick.none _))))), rfl⟩ | exact ⟨(.leave (.leave (.leave (.leave (.take (Pick.none _)))))), rfl⟩ | exact ⟨(.leave (.leave (.leave (.leave (.leave (.take (Pick.none _))))))), rfl⟩ | exact ⟨(.leave (.leave (.leave (.leave (.leave (.leave (.take (Pick.none _)))))))), rfl⟩ | exact ⟨(.leave (.leave (.leave (.leave (.leave (.leave (.leave (.take (Pick.none _))))))))), rfl⟩ | exact ⟨(.leave (.leave (.leave (.leave (.leave (.leave (.leave (.leave (.take (Pick.none _)))))))))), rfl⟩ | exact ⟨(.leave (.leave (.leave (.leave (.leave (.leave (.leave (.leave (.leave (.take (Pick.none _))))))))))), rfl⟩) (hs2 (by repeat (first | exact List.Mem.head _ | apply List.Mem.tail))) (ones_rcs _) (by first | omega | (simp only [maxLen]; omega)) (by first | omega | (simp only [maxLen]; omega)) ?_
              intro ob3 cap3 ho3
              refine RL.nilCheck rfl rfl rfl rfl ?_
              refine RL.fieldAddr fa_83_0 rfl rfl rfl rfl ?_
              refine RL.store (vs := [_]) Tryz.sizeOf81 rfl rfl rfl rfl rfl rfl rfl rfl rfl (by repeat (first | exact Upd.here | apply Upd.there)) ?_
              refine RL.nil ?_
              refine NQ.seq ?_
              refine CW.only .nil ?_
              refine CW.seq ?_
              refine CW.region (ef := []) (bk := []) ?_
              refine RL.assign rfl rfl rfl rfl ?_
              refine RL.nil ?_
              refine NQ.seq ?_
              refine CW.ret ?_
              refine RQ.rea (fun _ h => h) (H' := [cel y [slO ob3 (0 + (i - 0) + 1 + (R.length - i)) cap3] 83, own ob3 cap3 131 35 (0 + (i - 0) + 1 + (R.length - i)) ([] ++ rcs (R.take i) ++ One.rc ⟨n, k, 1, -1, 0⟩ ++ rcs (R.drop i))]) (by repeat (first | exact Rea.nil | (apply Rea.cons; (solve | (repeat (first | exact Del.here | apply Del.there)))))) (RQ.post (res1 rfl rfl) (.keep (.keep .nil)) ⟨rfl, rfl, ob3, cap3, rput_fin hi hins y ob3 cap3⟩)
          ·
            refine RL.buildSlice (One.rc ⟨n, k, 1, -1, 0⟩) Tryz.runUnderlying81 Tryz.sizeOf131 Tryz.zeroValue131 rfl rfl (by decide) (by decide) rfl rfl rfl rfl rfl (fill_one35 (rc_len hk) rfl) ?_
            intro b3
            refine RL.buildOwn [] Tryz.runUnderlying81 Tryz.sizeOf131 Tryz.zeroValue131 rfl rfl (by decide) (by decide) rfl (by decide) rfl rfl rfl rfl rfl rfl ?_
            intro b2
            refine RL.appendA el_81 rfl rfl rfl rfl rfl rfl rfl (by first | exact ⟨(.take (Pick.none _)), rfl⟩ | exact ⟨(.leave (.take (Pick.none _))), rfl⟩ | exact ⟨(.leave (.leave (.take (Pick.none _)))), rfl⟩ | exact ⟨(.leave (.leave (.leave (.take (Pick.none _))))), rfl⟩ | exact ⟨(.leave (.leave (.leave (.leave (.take (Pick.none _)))))), rfl⟩ | exact ⟨(.leave (.leave (.leave (.leave (.leave (.take (Pick.none _))))))), rfl⟩ | exact ⟨(.leave (.leave (.leave (.leave (.leave (.leave (.take (Pick.none _)))))))), rfl⟩ | exact ⟨(.leave (.leave (.leave (.leave (.leave (.leave (.leave (.take (Pick.none _))))))))), rfl⟩ | exact ⟨(.leave (.leave (.leave (.leave (.leave (.leave (.leave (.leave (.take (Pick.none _)))))))))), rfl⟩ | exact ⟨(.leave (.leave (.leave (.leave (.leave (.leave (.leave (.leave (.leave (.take (Pick.none _))))))))))), rfl⟩) (hs1 (by repeat (first | exact List.Mem.head _ | apply List.Mem.tail))) (ones_rcs _) (by first | omega | (simp only [maxLen]; omega)) (by first | omega | (simp only [maxLen]; omega)) ?_
            intro ob1 cap1 ho1
            refine RL.appendA el_81 rfl rfl rfl rfl rfl rfl rfl (by first | exact ⟨(.take (Pick.none _)), rfl⟩ | exact ⟨(.leave (.take (Pick.none _))), rfl⟩ | exact ⟨(.leave (.leave (.take (Pick.none _)))), rfl⟩ | exact ⟨(.leave (.leave (.leave (.take (Pick.none _))))), rfl⟩ | exact ⟨(.leave (.leave (.leave (.leave (.take (Pick.none _)))))), rfl⟩ | exact ⟨(.leave (.leave (.leave (.leave (.leave (.take (Pick.none _))))))), rfl⟩ | exact ⟨(.leave (.leave (.leave (.leave (.leave (.leave (.take (Pick.none _)))))))), rfl⟩ | exact ⟨(.leave (.leave (.leave (.leave (.leave (.leave (.leave (.take (Pick.none _))))))))), rfl⟩ | exact ⟨(.leave (.leave (.leave (.leave (.leave (.leave (.leave (.leave (.take (Pick.none _)))))))))), rfl⟩ | exact ⟨(.leave (.leave (.leave (.leave (.leave (.leave (.leave (.leave (.leave (.take (Pick.none _))))))))))), rfl⟩) (Src.cel (by repeat (first | exact List.Mem.head _ | apply List.Mem.tail)) (rc_len hk)) (ones_rc _) (by first | omega | (simp only [maxLen]; omega)) (by first | omega | (simp only [maxLen]; omega)) ?_
            intro ob2 cap2 ho2
            refine RL.appendA el_81 rfl rfl rfl rfl rfl rfl rfl (by first | exact ⟨(.take (Pick.none _)), rfl⟩ | exact ⟨(.leave (.take (Pick.none _))), rfl⟩ | exact ⟨(.leave (.leave (.take (Pick.none _)))), rfl⟩ | exact ⟨(.leave (.leave (.leave (.take (Pick.none _))))), rfl⟩ | exact ⟨(.leave (.leave (.leave (.leave (.take (Pick.none _)))))), rfl⟩ | exact ⟨(.leave (.leave (.leave (.leave (.leave (.take (Pick.none _))))))), rfl⟩ | exact ⟨(.leave (.leave (.leave (.leave (.leave (.leave (.take (Pick.none _)))))))), rfl⟩ | exact ⟨(.leave (.leave (.leave (.leave (.leave (.leave (.leave (.take (Pick.none _))))))))), rfl⟩ | exact ⟨(.leave (.leave (.leave (.leave (.leave (.leave (.leave (.leave (.take (Pick.none _)))))))))), rfl⟩ | exact ⟨(.leave (.leave (.leave (.leave (.leave (.leave (.leave (.leave (.leave (.take (Pick.none _))))))))))), rfl⟩) (hs2 (by repeat (first | exact List.Mem.head _ | apply List.Mem.tail))) (ones_rcs _) (by first | omega | (simp only [maxLen]; omega)) (by first | omega | (simp only [maxLen]; omega)) ?_
            intro ob3 cap3 ho3
            refine RL.nilCheck rfl rfl rfl rfl ?_
            refine RL.fieldAddr fa_83_0 rfl rfl rfl rfl ?_
            refine RL.store (vs := [_]) Tryz.sizeOf81 rfl rfl rfl rfl rfl rfl rfl rfl rfl (by repeat (first | exact Upd.here | apply Upd.there)) ?_
            refine RL.nil ?_
            refine NQ.seq ?_
            refine CW.only .nil ?_
            refine CW.seq ?_
            refine CW.region (ef := []) (bk := []) ?_
            refine RL.assign rfl rfl rfl rfl ?_
            refine RL.nil ?_
            refine NQ.seq ?_
            refine CW.ret ?_
            refine RQ.rea (fun _ h => h) (H' := [cel y [slO ob3 (0 + (i - 0) + 1 + (R.length - i)) cap3] 83, own ob3 cap3 131 35 (0 + (i - 0) + 1 + (R.length - i)) ([] ++ rcs (R.take i) ++ One.rc ⟨n, k, 1, -1, 0⟩ ++ rcs (R.drop i))]) (by repeat (first | exact Rea.nil | (apply Rea.cons; (solve | (repeat (first | exact Del.here | apply Del.there)))))) (RQ.post (res1 rfl rfl) (.keep (.keep .nil)) ⟨rfl, rfl, ob3, cap3, rput_fin hi hins y ob3 cap3⟩)
    ·
      have hat : atI R s = (i : Int) := by rw [atI, h1]
      rw [if_pos hm, if_pos hm, h3]
      dsimp only
      refine CW.skip ?_
      refine NQ.seq ?_
      refine CW.seq ?_
      refine CW.seq ?_
      refine CW.region (ef := []) (bk := []) ?_
      refine RL.move rfl rfl rfl rfl ?_
      refine RL.move rfl rfl rfl rfl ?_
      refine RL.callvq (rat_any y R ob cp s hR (by omega)) Tryz.call53 rfl rfl rfl rfl ?_
      refine RL.bin rfl rfl rfl rfl rfl rfl ?_
      refine RL.nil ?_
      refine NQ.seq ?_
      refine CW.only (.cons (k := 0) rfl (.cons (k := 1) rfl (.cons (k := 5) rfl (.cons (k := 6) rfl (.cons (k := 14) rfl .nil))))) ?_
      refine CW.condT rfl ((by rw [hat]; simp)) ?_
      refine CW.seq ?_
      refine CW.region (ef := []) (bk := []) ?_
      refine RL.assign rfl rfl rfl rfl ?_
      refine RL.nil ?_
      refine NQ.seq ?_
      refine CW.ret ?_
      refine RQ.seq ?_
      exact RQ.post (res1 rfl rfl) (.drop (.keep (.keep .nil))) ⟨rfl, rfl, ob, cp, rfl⟩
end Go.Proofs.YtkkfdoippibfkaaGreat
