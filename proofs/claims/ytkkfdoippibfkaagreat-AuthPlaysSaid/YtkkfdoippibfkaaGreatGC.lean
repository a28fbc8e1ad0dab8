import Derived.Test.YtkkfdoippibfkaaGreatGB
import Derived.Test.YtkkfdoippibfkaaGreatAB
namespace Go.Proofs.YtkkfdoippibfkaaGreat
open Go.PK

/-! ### The reference's Source -/
theorem rput_a (y : Nat) (R : List One) (ob : Option Nat) (cp : Nat) (s : Int) (k : List B8) (hk : k.length = 32) (hR : ROk R) (hl : R.length ≤ 1000) :
    Spc Tryz.prog 42 #[.pointer (some ⟨y, 0, none⟩), .int .i64 s, .agg (bytes k).toArray] [] (RefK y R ob cp) (RefR y (rputA R s k) (rputE R s)) := rput_any y R ob cp s k hk hR hl
def rsrcE (R : List One) (s : Int) (ks : List Int) : Int := if ks = [] ∨ ks.any oddG = true then 2 else rputE R s
def rsrcR (R : List One) (s : Int) (k : List B8) (ks : List Int) : List One := if ks = [] ∨ ks.any oddG = true then R else rputA R s k
def rts (s : Int) (ks : List Int) : List (Int × Int) := ks.map fun k => (s, k)
def rsrcW (R : List One) (W : List (Int × Int)) (s : Int) (ks : List Int) : List (Int × Int) := if rsrcE R s ks = 0 then W ++ rts s ks else W
theorem rput_no {R : List One} {s : Int} {k : List B8} (h : ¬ mayB s = true) : rputE R s = 2 ∧ rputA R s k = R := ⟨by rw [rputE, if_neg h], by rw [rputA, if_neg h]⟩
theorem rsrc_no {R : List One} {s : Int} {k : List B8} {ks : List Int} (h : ¬ mayB s = true ∨ ks = [] ∨ ks.any oddG = true) (W : List (Int × Int)) : rsrcE R s ks = 2 ∧ rsrcR R s k ks = R ∧ rsrcW R W s ks = W := by
  have hE : rsrcE R s ks = 2 := by
    rw [rsrcE]; split
    · rfl
    · next h2 => rcases h with h | h
                 · exact (rput_no (k := zeros) h).1
                 · exact absurd h h2
  refine ⟨hE, ?_, by rw [rsrcW, hE]; rfl⟩
  rw [rsrcR]; split
  · rfl
  · next h2 => rcases h with h | h
               · exact (rput_no h).2
               · exact absurd h h2
theorem rts_snoc {s : Int} {ks : List Int} {i : Nat} {x : Int} (hx : ks[i]? = some x) : rts s (ks.take (i + 1)) = rts s (ks.take i) ++ [(s, x)] := by
  obtain ⟨hlt, rfl⟩ := List.getElem?_eq_some_iff.1 hx
  rw [rts, List.take_succ_eq_append_getElem hlt, List.map_append]; rfl
def RSrcGR (B : RB) (g : RS) (x : Int) : Value → List It → List It → Prop := fun v I' H' => v = .int .i64 x ∧ I' = [] ∧ ∃ ob cp ow cw, H' = RGI B { g with ob := ob, cp := cp, ow := ow, cw := cw }
theorem rgsource_any (B : RB) (g : RS) (s : Int) (k : List B8) (kp : Option Addr) (c n : Nat) (ks : List Int) (hg : RSOk g) (hk : k.length = 32) (hn : ks.length = n) (hb : n ≤ 1000) :
    Spc Tryz.prog 18 #[.pointer (some ⟨B.yb, 0, none⟩), .int .i64 s, .agg (bytes k).toArray, .slice kp n c] [sls kp 1 n (ints ks)] (RGI B g) (RSrcGR B { g with R := rsrcR g.R s k ks, W := rsrcW g.R g.W s ks } (rsrcE g.R s ks)) := by
  subst hn
  obtain ⟨R, ob, cp, l, M, W, ow, cw, D, od, cd⟩ := g
  obtain ⟨hr, he1, he2, hnR, hll, hwl, hdl⟩ := hg
  dsimp only at hr he1 he2 hnR hll hwl hdl ⊢
  refine Spc.enter Tryz.func18 rfl rfl rfl (fun w0 hw0 => ?_)
  refine CW.seq ?_
  refine CW.region (ef := [0]) (bk := []) ?_
  refine RL.box rfl rfl rfl rfl rfl rfl ?_
  intro b1
  refine RL.assign rfl rfl rfl rfl ?_
  refine RL.nil ?_
  refine NQ.seq ?_
  refine CW.seq ?_
  refine CW.seq ?_
  refine CW.freezeP (A := [_]) (B := [_, _, _, _, _, _, _]) (.take (.leave (.leave (.leave (.leave (.leave (.leave (.leave .nil)))))))) rfl ?_
  refine CW.region (ef := []) (bk := []) ?_
  refine RL.move rfl rfl rfl rfl ?_
  refine RL.bin rfl rfl rfl rfl rfl rfl ?_
  refine RL.move rfl rfl rfl rfl ?_
  apply RL.orB (d := 14) (dp := 17) (l' := (Sq.of [6, 7, 8, 9, 10])) rfl (.cons (k := 0) rfl (.cons (k := 1) rfl (.cons (k := 3) rfl (.cons (k := 6) rfl (.cons (k := 8) rfl .nil)))))
  ·
    intro hb3 K3
    refine RL.move rfl rfl rfl rfl ?_
    refine RL.bin rfl rfl rfl rfl rfl rfl ?_
    refine RL.pickF rfl rfl rfl rfl rfl ?_
    exact K3 _ (.cons rfl (.cons (k := 0) rfl (.cons (k := 1) rfl (.cons (k := 3) rfl (.cons (k := 6) rfl (.cons (k := 8) rfl .nil))))))
  ·
    intro hb3 K3
    refine RL.skip rfl rfl rfl rfl ?_
    refine RL.skip rfl rfl rfl rfl ?_
    refine RL.pickT rfl rfl rfl rfl rfl ?_
    exact K3 _ (.cons rfl (.cons (k := 0) rfl (.cons (k := 1) rfl (.cons (k := 3) rfl (.cons (k := 6) rfl (.cons (k := 8) rfl .nil))))))
  refine RL.move rfl rfl rfl rfl ?_
  apply RL.orB (d := 18) (dp := 22) (l' := (Sq.of [])) rfl (.cons (k := 0) rfl (.cons (k := 1) rfl (.cons (k := 3) rfl (.cons (k := 6) rfl (.cons (k := 8) rfl .nil)))))
  ·
    intro hb7 K7
    refine RL.move rfl rfl rfl rfl ?_
    refine RL.lenS Tryz.runUnderlying41 rfl rfl rfl rfl ?_
    refine RL.bin rfl rfl rfl rfl rfl rfl ?_
    refine RL.pickF rfl rfl rfl rfl rfl ?_
    exact K7 _ (.cons rfl (.cons (k := 0) rfl (.cons (k := 1) rfl (.cons (k := 3) rfl (.cons (k := 6) rfl (.cons (k := 8) rfl .nil))))))
  ·
    intro hb7 K7
    refine RL.skip rfl rfl rfl rfl ?_
    refine RL.skip rfl rfl rfl rfl ?_
    refine RL.skip rfl rfl rfl rfl ?_
    refine RL.pickT rfl rfl rfl rfl rfl ?_
    exact K7 _ (.cons rfl (.cons (k := 0) rfl (.cons (k := 1) rfl (.cons (k := 3) rfl (.cons (k := 6) rfl (.cons (k := 8) rfl .nil))))))
  refine RL.nil ?_
  refine NQ.seq ?_
  refine CW.cond rfl (fun h => ?_) (fun h => ?_)
  ·
    refine CW.seq ?_
    refine CW.region (ef := []) (bk := []) ?_
    refine RL.assign rfl rfl rfl rfl ?_
    refine RL.nil ?_
    refine NQ.seq ?_
    refine CW.ret ?_
    refine RQ.seq ?_
    have h : ¬ mayB s = true ∨ ks = [] ∨ ks.any oddG = true := by
      simp at h; simp [mayB]
      rcases h with (h | h) | h
      · left; intro; omega
      · left; intro; omega
      · right; left; exact h
    obtain ⟨q1, q2, q3⟩ := rsrc_no (R := R) (k := k) h W
    rw [q1, q2, q3]
    refine RQ.rea (fun _ h => h) (H' := RGI B (⟨R, ob, cp, l, M, W, ow, cw, D, od, cd⟩)) (by repeat (first | exact Rea.nil | (apply Rea.cons; (solve | (repeat (first | exact Del.here | apply Del.there)))))) ?_
    exact RQ.post (res1 rfl rfl) (.keep (.keep (.keep (.keep (.keep (.keep (.keep .nil))))))) ⟨rfl, rfl, _, _, _, _, rfl⟩
  ·
    refine CW.skip ?_
    refine NQ.seq ?_
    refine CW.seq ?_
    refine CW.seq ?_
    refine CW.region (ef := []) (bk := []) ?_
    refine RL.assign rfl rfl rfl rfl ?_
    refine RL.nil ?_
    refine NQ.seq ?_
    refine CW.block ?_
    have hm : mayB s = true := by simp at h; simp [mayB]; omega
    have hne : ¬ ks = [] := by simp at h; exact h.2
    refine CW.fact (p := kp = none → ks.length = 0) (fun w hC e => sls_nil (hC.s.i _ (List.Mem.tail _ (List.Mem.head _))) e) (fun hpp => ?_)
    refine CW.loop (γ := Nat) (fun i => i ≤ ks.length ∧ (ks.take i).any oddG = false) (fun i => [(0, .pointer (some ⟨B.yb, 0, none⟩)), (1, .int .i64 s), (3, .slice kp ks.length c), (6, .pointer (some ⟨b1, 0, none⟩)), (9, .int .i64 (i : Int))]) (fun _ => [cel b1 (bytes k) 56, sls kp 1 ks.length (ints ks)]) (fun _ => RGI B ⟨R, ob, cp, l, M, W, ow, cw, D, od, cd⟩) (fun i => ks.length - i) 0 ⟨by omega, rfl⟩ (.cons rfl (.cons rfl (.cons rfl (.cons rfl (.cons rfl .nil))))) (fun _ h => h) ?_
    rintro i ⟨hi, hno⟩
    refine CW.seq ?_
    refine CW.seq ?_
    refine CW.region (ef := []) (bk := []) ?_
    refine RL.move rfl rfl rfl rfl ?_
    refine RL.move rfl rfl rfl rfl ?_
    refine RL.lenS Tryz.runUnderlying41 rfl rfl rfl rfl ?_
    refine RL.bin rfl rfl rfl rfl rfl rfl ?_
    refine RL.nil ?_
    refine NQ.seq ?_
    refine CW.cond rfl (fun hlt => ?_) (fun hlt => ?_)
    ·
      have hi2 : i < ks.length := by simp at hlt; omega
      clear hlt
      cases kp with
      | none => exact absurd (hpp rfl) (by omega)
      | some a =>
      have hx := List.getElem?_eq_getElem hi2
      have f1 := RdI.sls (I := [cel b1 (bytes k) 56, sls (some a) 1 ks.length (ints ks)]) (List.Mem.tail _ (List.Mem.head _)) hx
      have htk := List.take_succ_eq_append_getElem hi2
      generalize ks[i] = x at hx f1 htk
      refine CW.skip ?_
      refine NQ.seq ?_
      refine CW.seq ?_
      refine CW.block ?_
      refine CW.seq ?_
      refine CW.region (ef := []) (bk := []) ?_
      refine RL.move rfl rfl rfl rfl ?_
      refine RL.move rfl rfl rfl rfl ?_
      first | refine RL.idxAt (j := i) Tryz.runUnderlying41 Tryz.sizeOf3 rfl rfl rfl rfl rfl rfl (hi2) ?_ | refine RL.idx (j := i) Tryz.runUnderlying41 Tryz.sizeOf3 rfl rfl rfl rfl rfl rfl (hi2) ?_
      refine RL.loadq Tryz.isAgg3 rfl rfl rfl rfl ?_
      refine RL.bin rfl rfl rfl rfl rfl rfl ?_
      refine RL.move rfl rfl rfl rfl ?_
      apply RL.orB (d := 34) (dp := 40) (l' := (Sq.of [])) rfl (.cons (k := 0) rfl (.cons (k := 1) rfl (.cons (k := 3) rfl (.cons (k := 6) rfl (.cons (k := 9) rfl .nil)))))
      ·
        intro hb6 K6
        refine RL.move rfl rfl rfl rfl ?_
        refine RL.move rfl rfl rfl rfl ?_
        first | refine RL.idxAt (j := i) Tryz.runUnderlying41 Tryz.sizeOf3 rfl rfl rfl rfl rfl rfl (hi2) ?_ | refine RL.idx (j := i) Tryz.runUnderlying41 Tryz.sizeOf3 rfl rfl rfl rfl rfl rfl (hi2) ?_
        refine RL.loadq Tryz.isAgg3 rfl rfl rfl rfl ?_
        refine RL.bin rfl rfl rfl rfl rfl rfl ?_
        refine RL.pickF rfl rfl rfl rfl rfl ?_
        exact K6 _ (.cons rfl (.cons (k := 0) rfl (.cons (k := 1) rfl (.cons (k := 3) rfl (.cons (k := 6) rfl (.cons (k := 9) rfl .nil))))))
      ·
        intro hb6 K6
        refine RL.skip rfl rfl rfl rfl ?_
        refine RL.skip rfl rfl rfl rfl ?_
        refine RL.skip rfl rfl rfl rfl ?_
        refine RL.skip rfl rfl rfl rfl ?_
        refine RL.skip rfl rfl rfl rfl ?_
        refine RL.pickT rfl rfl rfl rfl rfl ?_
        exact K6 _ (.cons rfl (.cons (k := 0) rfl (.cons (k := 1) rfl (.cons (k := 3) rfl (.cons (k := 6) rfl (.cons (k := 9) rfl .nil))))))
      refine RL.nil ?_
      refine NQ.seq ?_
      refine CW.cond rfl (fun ho => ?_) (fun ho => ?_)
      ·
        refine CW.seq ?_
        refine CW.region (ef := []) (bk := []) ?_
        refine RL.assign rfl rfl rfl rfl ?_
        refine RL.nil ?_
        refine NQ.seq ?_
        refine CW.ret ?_
        refine RQ.block ?_
        refine RQ.seq ?_
        refine RQ.seq ?_
        refine RQ.block ?_
        refine RQ.seq ?_
        have ho : oddG x = true := by simpa [oddG] using ho
        have h : ¬ mayB s = true ∨ ks = [] ∨ ks.any oddG = true := .inr (.inr (List.any_eq_true.2 ⟨x, List.mem_of_getElem? hx, ho⟩))
        obtain ⟨q1, q2, q3⟩ := rsrc_no (R := R) (k := k) h W
        rw [q1, q2, q3]
        refine RQ.rea (fun _ h => h) (H' := RGI B (⟨R, ob, cp, l, M, W, ow, cw, D, od, cd⟩)) (by repeat (first | exact Rea.nil | (apply Rea.cons; (solve | (repeat (first | exact Del.here | apply Del.there)))))) ?_
        exact RQ.post (res1 rfl rfl) (.keep (.keep (.keep (.keep (.keep (.keep (.keep .nil))))))) ⟨rfl, rfl, _, _, _, _, rfl⟩
      ·
        refine CW.skip ?_
        refine NQ.block ?_
        refine NQ.seq ?_
        refine CW.region (ef := []) (bk := []) ?_
        refine RL.move rfl rfl rfl rfl ?_
        refine RL.binX rfl rfl rfl rfl rfl rfl (wrapV_i64 (by omega) (by omega)) ?_
        refine RL.assign rfl rfl rfl rfl ?_
        refine RL.nil ?_
        have ho : oddG x = false := by simpa [oddG] using ho
        refine NQ.round (g := i) (i + 1) ⟨hi2, by rw [htk, List.any_append, hno]; simp [ho]⟩ (by show ks.length - (i + 1) < ks.length - i; omega) (.cons rfl (.cons rfl (.cons rfl (.cons rfl (.cons rfl .nil))))) (fun w h => h)
    · have fk : RdsN [cel b1 (bytes k) 56, sls kp 1 ks.length (ints ks)] ⟨b1, 0, none⟩ 32 (bytes k) := RdsN.told (List.Mem.head _) (fun j u h => by rw [Nat.zero_add]; exact h) (by rw [List.length_map, hk])
      refine CW.exit ?_
      refine XQ.seq ?_
      refine XQ.seq ?_
      refine XQ.hit ?_
      refine NQ.seq ?_
      refine CW.seq ?_
      refine CW.seq ?_
      refine CW.regionD (Sq.of [0, 1, 2, 3, 4, 5, 6, 7]) [6] [6] [0, 1, 2, 4, 5, 7] mixed (by kernel_rfl) ?_
      refine RL.move rfl rfl rfl rfl ?_
      refine RL.nilCheck rfl rfl rfl rfl ?_
      first | refine RL.fieldAddr fa_93_0 rfl rfl rfl rfl ?_ | refine RL.fieldAddrG fa_93_0 rfl rfl rfl rfl ?_
      refine RL.loadq Tryz.isAgg80 rfl rfl rfl rfl ?_
      refine RL.move rfl rfl rfl rfl ?_
      first | refine RL.loadMT Tryz.isAgg56 Tryz.sizeOf56 rfl rfl rfl rfl (by assumption) ?_ | refine RL.loadAT Tryz.isAgg56 Tryz.sizeOf56 rfl rfl rfl rfl (by first | assumption | (apply RdsI.rds; assumption)) (by first | rfl | assumption | (simp only [List.length_map]; assumption) | (simp only [List.length_map, List.length_replicate, hk]; done) | (simp; done)) ?_
      refine RL.callq (rput_a B.y R ob cp s k hk hr (by omega)) Tryz.call42 rfl rfl rfl rfl rfl (.inr rfl) ?_
      have hin : i = ks.length := by simp at hlt; omega
      subst hin
      rw [List.take_length] at hno
      have hO : ¬ (ks = [] ∨ ks.any oddG = true) := by rintro (h | h); exact hne h; rw [hno] at h; cases h
      have hE : rsrcE R s ks = rputE R s := by rw [rsrcE, if_neg hO]
      have hR : rsrcR R s k ks = rputA R s k := by rw [rsrcR, if_neg hO]
      rw [hR]
      rintro _ _ _ ⟨rfl, rfl, ob', cp', rfl⟩
      refine RL.assign rfl rfl rfl rfl ?_
      refine RL.nil ?_
      refine NQ.seq ?_
      refine CW.only (.cons (k := 0) rfl (.cons (k := 1) rfl (.cons (k := 3) rfl (.cons (k := 10) rfl .nil)))) ?_
      refine CW.seq ?_
      refine CW.region (ef := []) (bk := []) ?_
      refine RL.move rfl rfl rfl rfl ?_
      refine RL.bin rfl rfl rfl rfl rfl rfl ?_
      refine RL.nil ?_
      refine NQ.seq ?_
      refine CW.cond rfl (fun he => ?_) (fun he => ?_)
      ·
        refine CW.seq ?_
        refine CW.region (ef := []) (bk := []) ?_
        refine RL.move rfl rfl rfl rfl ?_
        refine RL.assign rfl rfl rfl rfl ?_
        refine RL.nil ?_
        refine NQ.seq ?_
        refine CW.ret ?_
        refine RQ.seq ?_
        have he : ¬ rputE R s = 0 := by simpa using he
        have hW : rsrcW R W s ks = W := by rw [rsrcW, hE, if_neg he]
        rw [hE, hW]
        refine RQ.rea (fun _ h => h) (H' := RGI B (⟨rputA R s k, ob', cp', l, M, W, ow, cw, D, od, cd⟩)) (by repeat (first | exact Rea.nil | (apply Rea.cons; (solve | (repeat (first | exact Del.here | apply Del.there)))))) ?_
        exact RQ.post (res1 rfl rfl) (.keep (.keep (.keep (.keep (.keep (.keep (.keep .nil))))))) ⟨rfl, rfl, _, _, _, _, rfl⟩
      ·
        refine CW.skip ?_
        refine NQ.seq ?_
        refine CW.seq ?_
        refine CW.seq ?_
        refine CW.region (ef := []) (bk := []) ?_
        refine RL.assign rfl rfl rfl rfl ?_
        refine RL.nil ?_
        refine NQ.seq ?_
        refine CW.block ?_
        have he : rputE R s = 0 := by simpa using he
        have hW : rsrcW R W s ks = W ++ rts s ks := by rw [rsrcW, hE, if_pos he]
        rw [hE, hW, he]
        refine CW.loop (γ := Nat × Option Nat × Nat) (fun z => z.1 ≤ ks.length) (fun z => [(0, .pointer (some ⟨B.yb, 0, none⟩)), (1, .int .i64 s), (3, .slice kp ks.length c), (11, .int .i64 (z.1 : Int))]) (fun _ => [cel b1 (bytes k) 56, sls kp 1 ks.length (ints ks)]) (fun z => RGI B ⟨rputA R s k, ob', cp', l, M, W ++ rts s (ks.take z.1), z.2.1, z.2.2, D, od, cd⟩) (fun z => ks.length - z.1) (0, ow, cw) (by show 0 ≤ ks.length; omega) (.cons rfl (.cons rfl (.cons rfl (.cons rfl .nil)))) (fun w h => by
          rw [show RGI B ⟨rputA R s k, ob', cp', l, M, W ++ rts s (ks.take 0), ow, cw, D, od, cd⟩ = RGI B ⟨rputA R s k, ob', cp', l, M, W, ow, cw, D, od, cd⟩ by simp [rts]]
          exact h.rea (fun _ h => h) (by repeat (first | exact Rea.nil | (apply Rea.cons; (solve | (repeat (first | exact Del.here | apply Del.there))))))) ?_
        rintro ⟨i, ow, cw⟩ hi
        have hi : i ≤ ks.length := hi
        have hVl : (W ++ rts s (ks.take i)).length ≤ 200000 := by simp [rts]; omega
        have hVe : ∀ x, ks[i]? = some x → W ++ rts s (ks.take (i + 1)) = W ++ rts s (ks.take i) ++ [(s, x)] := fun x hx => by rw [rts_snoc hx, List.append_assoc]
        have hVf : i = ks.length → W ++ rts s (ks.take i) = W ++ rts s ks := fun h => by subst h; rw [List.take_length]
        dsimp only
        generalize W ++ rts s (ks.take i) = V at hVl hVe hVf ⊢
        refine CW.seq ?_
        refine CW.seq ?_
        refine CW.region (ef := []) (bk := []) ?_
        refine RL.move rfl rfl rfl rfl ?_
        refine RL.move rfl rfl rfl rfl ?_
        refine RL.lenS Tryz.runUnderlying41 rfl rfl rfl rfl ?_
        refine RL.bin rfl rfl rfl rfl rfl rfl ?_
        refine RL.nil ?_
        refine NQ.seq ?_
        refine CW.cond rfl (fun hlt => ?_) (fun hlt => ?_)
        ·
          have hi2 : i < ks.length := by simp at hlt; omega
          clear hlt
          cases kp with
          | none => exact absurd (hpp rfl) (by omega)
          | some a =>
          have hx := List.getElem?_eq_getElem hi2
          have f1 := RdI.sls (I := [cel b1 (bytes k) 56, sls (some a) 1 ks.length (ints ks)]) (List.Mem.tail _ (List.Mem.head _)) hx
          generalize ks[i] = x at hx f1
          have hV1 := hVe x hx
          have e : ∀ o1 c1, RGI B ⟨rputA R s k, ob', cp', l, M, W ++ rts s (ks.take (i + 1)), o1, c1, D, od, cd⟩ = [cel B.yb [.pointer (some ⟨B.y, 0, none⟩), .pointer (some ⟨B.rt, 0, none⟩), .pointer (some ⟨B.rk, 0, none⟩), slO o1 (V.length + 1) c1, slO od D.length cd] 93, cel B.y [slO ob' (rputA R s k).length cp'] 83, own ob' cp' 131 35 (rputA R s k).length (rcs (rputA R s k)), rtI B.rt M, rkI B.rk B.mo B.ti l, own o1 c1 103 2 (V.length + 1) (wcs V ++ [.int .i64 s, .int .i64 x]), own od cd 115 2 D.length (wcs D)] := fun o1 c1 => by rw [RGI, hV1]; simp [rgCel, wcs, wc]
          refine CW.skip ?_
          refine NQ.seq ?_
          refine CW.seq ?_
          refine CW.block ?_
          refine CW.regionD (Sq.of [0, 1, 2, 3, 4, 5, 6, 7, 8, 9, 10, 11, 12, 13, 14, 15]) [11, 12, 15] [12, 15] [0, 1, 2, 3, 5, 6, 7, 8, 9, 10, 13, 14] mixed (by kernel_rfl) ?_
          refine RL.move rfl rfl rfl rfl ?_
          refine RL.move rfl rfl rfl rfl ?_
          refine RL.nilCheck rfl rfl rfl rfl ?_
          first | refine RL.fieldAddr fa_93_3 rfl rfl rfl rfl ?_ | refine RL.fieldAddrG fa_93_3 rfl rfl rfl rfl ?_
          refine RL.loadq Tryz.isAgg90 rfl rfl rfl rfl ?_
          refine RL.move rfl rfl rfl rfl ?_
          refine RL.move rfl rfl rfl rfl ?_
          refine RL.move rfl rfl rfl rfl ?_
          first | refine RL.idxAt (j := i) Tryz.runUnderlying41 Tryz.sizeOf3 rfl rfl rfl rfl rfl rfl (hi2) ?_ | refine RL.idx (j := i) Tryz.runUnderlying41 Tryz.sizeOf3 rfl rfl rfl rfl rfl rfl (hi2) ?_
          refine RL.loadTq Tryz.isAgg3 rfl rfl rfl rfl ?_
          refine RL.buildS [_, _] Tryz.zeroValue103 pl_103 rfl rfl rfl rfl rfl ?_
          refine RL.buildSlice [_, _] Tryz.runUnderlying90 Tryz.sizeOf103 Tryz.zeroValue103 rfl rfl (by decide) (by decide) rfl rfl rfl rfl rfl rfl ?_
          intro b2
          refine RL.appendq el_90 rfl rfl rfl rfl rfl rfl rfl ?_ (hs := (by first | (exact Src.cel (by (solve | (repeat (first | exact List.Mem.head _ | apply List.Mem.tail)))) (by first | rfl | assumption | (simp only [List.length_map]; assumption) | (simp only [List.length_map, List.length_replicate, hk]; done) | (simp; done))) | (exact Src.ownS (by (solve | (repeat (first | exact List.Mem.head _ | apply List.Mem.tail))))) | (exact Src.own (by (solve | (repeat (first | exact List.Mem.head _ | apply List.Mem.tail))))) | (exact Src.sls (by (solve | (repeat (first | exact List.Mem.head _ | apply List.Mem.tail))))) | (exact Src.celI (by (solve | (repeat (first | exact List.Mem.head _ | apply List.Mem.tail)))) (by first | rfl | assumption | (simp only [List.length_map]; assumption) | (simp only [List.length_map, List.length_replicate, hk]; done) | (simp; done)))))
          intro ob1 cap1 ho1
          refine RL.nilCheck rfl rfl rfl rfl ?_
          first | refine RL.fieldAddr fa_93_3 rfl rfl rfl rfl ?_ | refine RL.fieldAddrG fa_93_3 rfl rfl rfl rfl ?_
          refine RL.store (vs := [_]) Tryz.sizeOf90 rfl rfl rfl rfl rfl rfl rfl rfl rfl (by repeat (first | exact Upd.here | apply Upd.there)) ?_
          refine RL.nil ?_
          refine NQ.block ?_
          refine NQ.seq ?_
          refine CW.only (.cons (k := 0) rfl (.cons (k := 1) rfl (.cons (k := 3) rfl (.cons (k := 11) rfl .nil)))) ?_
          refine CW.region (ef := []) (bk := []) ?_
          refine RL.move rfl rfl rfl rfl ?_
          refine RL.binX rfl rfl rfl rfl rfl rfl (wrapV_i64 (by omega) (by omega)) ?_
          refine RL.assign rfl rfl rfl rfl ?_
          refine RL.nil ?_
          refine NQ.round (g := (i, ow, cw)) (i + 1, ob1, cap1) hi2 (by show ks.length - (i + 1) < ks.length - i; omega) (.cons rfl (.cons rfl (.cons rfl (.cons rfl .nil)))) (fun w h => by dsimp only; rw [e]; exact h.rea (fun _ h => h) (by repeat (first | exact Rea.nil | (apply Rea.cons; (solve | (repeat (first | exact Del.here | apply Del.there)))))))
        ·
          refine CW.exit ?_
          refine XQ.seq ?_
          refine XQ.seq ?_
          refine XQ.hit ?_
          refine NQ.seq ?_
          refine CW.only .nil ?_
          refine CW.seq ?_
          refine CW.region (ef := []) (bk := []) ?_
          refine RL.assign rfl rfl rfl rfl ?_
          refine RL.nil ?_
          refine NQ.seq ?_
          refine CW.ret ?_
          have hin : i = ks.length := by simp at hlt; omega
          rw [hVf hin]
          refine RQ.rea (fun _ h => h) (H' := RGI B (⟨rputA R s k, ob', cp', l, M, W ++ rts s ks, ow, cw, D, od, cd⟩)) (by repeat (first | exact Rea.nil | (apply Rea.cons; (solve | (repeat (first | exact Del.here | apply Del.there)))))) ?_
          exact RQ.post (res1 rfl rfl) (.keep (.keep (.keep (.keep (.keep (.keep (.keep .nil))))))) ⟨rfl, rfl, _, _, _, _, rfl⟩
end Go.Proofs.YtkkfdoippibfkaaGreat

namespace Go.Proofs.YtkkfdoippibfkaaGreat
open Go.PK

theorem res3 {N : Nat} {E : Env} {w0 : World} {S : List Nat} {I H : List It} {P : Program} {fn : Func} {t u v : Tmp} {v1 v2 v3 : Value} (hf : fn.results = #[.tmp t, .tmp u, .tmp v]) (ht : E.get t = some v1) (hu : E.get u = some v2) (hv : E.get v = some v3) :
    ∀ a w, Ag N a E → Cls w0 S I H w → (results fn a.tmps).run P w = .ok (.tuple #[v1, v2, v3]) w := fun a w ha _ => by
  rw [results_tmp3 hf]; simp [ha.t t v1 ht, ha.t u v2 hu, ha.t v v3 hv]
/-! ### What a guard tells of itself -/
def lkAt (l : List Lk) (s : Int) : Lk := if mayB s = true then (l[s.toNat]?).getD ⟨0, 0, 0⟩ else ⟨0, 0, 0⟩
theorem lk_rdsI {kb : Nat} {mo ti : Int} {l : List Lk} {n : Nat} {x : Lk} {I H : List It} {T : TypeId} (hx : l[n]? = some x) (hm : cel kb (kCells mo ti l) T ∈ I) : Rds I H ⟨kb, 0 + 2 + n * 3, none⟩ [.int .i64 x.f, .int .i64 x.t, .int .i64 x.u] :=
  Rds.celI hm (fun j u hj => by
    have hlt : j < 3 := (List.getElem?_eq_some_iff.1 hj).1
    exact k_get hx hj hlt)
theorem llook_any (kb : Nat) (mo ti : Int) (l : List Lk) (s : Int) (hmo : mo ≠ 0) (hl : l.length = 8) : Spc Tryz.prog 76 #[.pointer (some ⟨kb, 0, none⟩), .int .i64 s] [kI kb mo ti l] [] (Is (.agg #[.int .i64 (lkAt l s).f, .int .i64 (lkAt l s).t, .int .i64 (lkAt l s).u])) := by
  by_cases hm : mayB s = true
  · obtain ⟨n, rfl⟩ : ∃ n : Nat, s = (n : Int) := ⟨s.toNat, by simp [mayB] at hm; omega⟩
    have h8 : n < 8 := by simp [mayB] at hm; omega
    have hx := List.getElem?_eq_getElem (show n < l.length by omega)
    generalize l[n] = x at hx
    have hk : lkAt l (n : Int) = x := by rw [lkAt, if_pos hm, Int.toNat_natCast, hx]; rfl
    rw [hk]
    refine Spc.enter Tryz.func76 rfl rfl rfl (fun w0 hw0 => ?_)
    refine CW.seq ?_
    refine CW.region (ef := [0]) (bk := []) ?_
    refine RL.alloc Tryz.zeroValue119 rfl rfl rfl rfl rfl ?_
    intro b1
    refine RL.nil ?_
    refine NQ.seq ?_
    refine CW.seq ?_
    refine CW.region (ef := []) (bk := []) ?_
    refine RL.move rfl rfl rfl rfl ?_
    refine RL.move rfl rfl rfl rfl ?_
    refine RL.callvq (lfind_yes kb mo ti l n hmo h8) Tryz.call93 rfl rfl rfl rfl ?_
    refine RL.move rfl rfl rfl rfl ?_
    refine RL.extract rfl rfl rfl rfl rfl ?_
    refine RL.extract rfl rfl rfl rfl rfl ?_
    refine RL.assign rfl rfl rfl rfl ?_
    refine RL.assign rfl rfl rfl rfl ?_
    refine RL.nil ?_
    refine NQ.seq ?_
    refine CW.only (.cons (k := 4) rfl (.cons (k := 5) rfl (.cons (k := 6) rfl .nil))) ?_
    refine CW.seq ?_
    refine CW.seq ?_
    refine CW.region (ef := []) (bk := []) ?_
    refine RL.move rfl rfl rfl rfl ?_
    refine RL.bin rfl rfl rfl rfl rfl rfl ?_
    refine RL.nil ?_
    refine NQ.seq ?_
    refine CW.condF rfl ((by simp)) ?_
    refine CW.skip ?_
    refine NQ.seq ?_
    refine CW.seq ?_
    refine CW.region (ef := [3]) (bk := [3]) ?_
    refine RL.move rfl rfl rfl rfl ?_
    refine RL.nilCheck rfl rfl rfl rfl ?_
    refine RL.loadN (vs := [_, _, _]) Tryz.isAgg119 Tryz.sizeOf119 rfl rfl rfl rfl (lk_rdsI hx (by repeat (first | exact List.Mem.head _ | apply List.Mem.tail))) ?_
    refine RL.store (vs := [_, _, _]) Tryz.sizeOf119 rfl rfl rfl rfl rfl rfl rfl rfl rfl (by repeat (first | exact Upd.here | apply Upd.there)) ?_
    refine RL.nil ?_
    refine NQ.seq ?_
    refine CW.only (.cons (k := 4) rfl .nil) ?_
    refine CW.ret ?_
    exact RQ.post (resW rfl rfl Tryz.isAgg119 Tryz.sizeOf119 (by repeat (first | exact List.Mem.head _ | apply List.Mem.tail)) rfl) (Split.none _) ⟨rfl, rfl, rfl⟩
  · have hk : lkAt l s = ⟨0, 0, 0⟩ := by rw [lkAt, if_neg hm]
    rw [hk]
    refine Spc.enter Tryz.func76 rfl rfl rfl (fun w0 hw0 => ?_)
    refine CW.seq ?_
    refine CW.region (ef := [0]) (bk := []) ?_
    refine RL.alloc Tryz.zeroValue119 rfl rfl rfl rfl rfl ?_
    intro b1
    refine RL.nil ?_
    refine NQ.seq ?_
    refine CW.seq ?_
    refine CW.region (ef := []) (bk := []) ?_
    refine RL.move rfl rfl rfl rfl ?_
    refine RL.move rfl rfl rfl rfl ?_
    refine RL.callvq (lfind_no kb mo ti l s hmo hm) Tryz.call93 rfl rfl rfl rfl ?_
    refine RL.move rfl rfl rfl rfl ?_
    refine RL.extract rfl rfl rfl rfl rfl ?_
    refine RL.extract rfl rfl rfl rfl rfl ?_
    refine RL.assign rfl rfl rfl rfl ?_
    refine RL.assign rfl rfl rfl rfl ?_
    refine RL.nil ?_
    refine NQ.seq ?_
    refine CW.only (.cons (k := 4) rfl (.cons (k := 5) rfl (.cons (k := 6) rfl .nil))) ?_
    refine CW.seq ?_
    refine CW.seq ?_
    refine CW.region (ef := []) (bk := []) ?_
    refine RL.move rfl rfl rfl rfl ?_
    refine RL.bin rfl rfl rfl rfl rfl rfl ?_
    refine RL.nil ?_
    refine NQ.seq ?_
    refine CW.condT rfl ((by simp)) ?_
    refine CW.seq ?_
    refine CW.region (ef := [1]) (bk := [1]) ?_
    refine RL.buildS _ Tryz.zeroValue119 pl_119 rfl rfl rfl rfl rfl ?_
    refine RL.store (vs := [_, _, _]) Tryz.sizeOf119 rfl rfl rfl rfl rfl rfl rfl rfl rfl (by repeat (first | exact Upd.here | apply Upd.there)) ?_
    refine RL.nil ?_
    refine NQ.seq ?_
    refine CW.ret ?_
    refine RQ.seq ?_
    exact RQ.post (resW rfl rfl Tryz.isAgg119 Tryz.sizeOf119 (by repeat (first | exact List.Mem.head _ | apply List.Mem.tail)) rfl) (Split.none _) ⟨rfl, rfl, rfl⟩
theorem lfails_any (kb : Nat) (mo ti : Int) (l : List Lk) (s : Int) (hmo : mo ≠ 0) (hl : l.length = 8) : Spc Tryz.prog 47 #[.pointer (some ⟨kb, 0, none⟩), .int .i64 s] [kI kb mo ti l] [] (Is (.int .i64 (lkAt l s).f)) := by
  refine Spc.enter Tryz.func47 rfl rfl rfl (fun w0 hw0 => ?_)
  refine CW.seq ?_
  refine CW.region (ef := []) (bk := []) ?_
  refine RL.assign rfl rfl rfl rfl ?_
  refine RL.nil ?_
  refine NQ.seq ?_
  refine CW.seq ?_
  refine CW.region (ef := []) (bk := []) ?_
  refine RL.move rfl rfl rfl rfl ?_
  refine RL.move rfl rfl rfl rfl ?_
  refine RL.callvq (llook_any kb mo ti l s hmo hl) Tryz.call76 rfl rfl rfl rfl ?_
  refine RL.field (v := .int .i64 (lkAt l s).f) (fun w => by simp [Instr.field, asAgg, Program.fieldsOf, Go.part, go_sem]) rfl rfl rfl rfl ?_
  refine RL.assign rfl rfl rfl rfl ?_
  refine RL.nil ?_
  refine NQ.seq ?_
  refine CW.only (.cons (k := 4) rfl .nil) ?_
  refine CW.ret ?_
  exact RQ.post (res1 rfl rfl) (Split.none _) ⟨rfl, rfl, rfl⟩
theorem luntil_any (kb : Nat) (mo ti : Int) (l : List Lk) (s : Int) (hmo : mo ≠ 0) (hl : l.length = 8) : Spc Tryz.prog 48 #[.pointer (some ⟨kb, 0, none⟩), .int .i64 s] [kI kb mo ti l] [] (Is (.int .i64 (lkAt l s).u)) := by
  refine Spc.enter Tryz.func48 rfl rfl rfl (fun w0 hw0 => ?_)
  refine CW.seq ?_
  refine CW.region (ef := []) (bk := []) ?_
  refine RL.assign rfl rfl rfl rfl ?_
  refine RL.nil ?_
  refine NQ.seq ?_
  refine CW.seq ?_
  refine CW.region (ef := []) (bk := []) ?_
  refine RL.move rfl rfl rfl rfl ?_
  refine RL.move rfl rfl rfl rfl ?_
  refine RL.callvq (llook_any kb mo ti l s hmo hl) Tryz.call76 rfl rfl rfl rfl ?_
  refine RL.field (v := .int .i64 (lkAt l s).u) (fun w => by simp [Instr.field, asAgg, Program.fieldsOf, Go.part, go_sem]) rfl rfl rfl rfl ?_
  refine RL.assign rfl rfl rfl rfl ?_
  refine RL.nil ?_
  refine NQ.seq ?_
  refine CW.only (.cons (k := 4) rfl .nil) ?_
  refine CW.ret ?_
  exact RQ.post (res1 rfl rfl) (Split.none _) ⟨rfl, rfl, rfl⟩
theorem ltotal_any (kb : Nat) (mo ti : Int) (l : List Lk) (s : Int) (hmo : mo ≠ 0) (hl : l.length = 8) : Spc Tryz.prog 49 #[.pointer (some ⟨kb, 0, none⟩), .int .i64 s] [kI kb mo ti l] [] (Is (.int .i64 (lkAt l s).t)) := by
  refine Spc.enter Tryz.func49 rfl rfl rfl (fun w0 hw0 => ?_)
  refine CW.seq ?_
  refine CW.region (ef := []) (bk := []) ?_
  refine RL.assign rfl rfl rfl rfl ?_
  refine RL.nil ?_
  refine NQ.seq ?_
  refine CW.seq ?_
  refine CW.region (ef := []) (bk := []) ?_
  refine RL.move rfl rfl rfl rfl ?_
  refine RL.move rfl rfl rfl rfl ?_
  refine RL.callvq (llook_any kb mo ti l s hmo hl) Tryz.call76 rfl rfl rfl rfl ?_
  refine RL.field (v := .int .i64 (lkAt l s).t) (fun w => by simp [Instr.field, asAgg, Program.fieldsOf, Go.part, go_sem]) rfl rfl rfl rfl ?_
  refine RL.assign rfl rfl rfl rfl ?_
  refine RL.nil ?_
  refine NQ.seq ?_
  refine CW.only (.cons (k := 4) rfl .nil) ?_
  refine CW.ret ?_
  exact RQ.post (res1 rfl rfl) (Split.none _) ⟨rfl, rfl, rfl⟩
theorem gfails_any (B : GB) (g : GSt) (s : Int) (hmo : B.mo ≠ 0) (hg : GOk g) : Spc Tryz.prog 21 #[.pointer (some ⟨B.gb, 0, none⟩), .int .i64 s] (GI B g) [] (Is (.tuple #[.int .i64 (lkAt g.l s).f, .int .i64 (lkAt g.l s).u, .int .i64 (lkAt g.l s).t])) := by
  refine Spc.enter Tryz.func21 rfl rfl rfl (fun w0 hw0 => ?_)
  refine CW.seq ?_
  refine CW.region (ef := []) (bk := []) ?_
  refine RL.assign rfl rfl rfl rfl ?_
  refine RL.assign rfl rfl rfl rfl ?_
  refine RL.assign rfl rfl rfl rfl ?_
  refine RL.nil ?_
  refine NQ.seq ?_
  refine CW.seq ?_
  refine CW.seq ?_
  refine CW.region (ef := []) (bk := []) ?_
  refine RL.move rfl rfl rfl rfl ?_
  refine RL.callvq (gis_any B) Tryz.call34 rfl rfl rfl rfl ?_
  refine RL.not rfl rfl rfl rfl ?_
  refine RL.nil ?_
  refine NQ.seq ?_
  refine CW.condF rfl (rfl) ?_
  refine CW.skip ?_
  refine NQ.seq ?_
  refine CW.only (.cons (k := 0) rfl (.cons (k := 1) rfl .nil)) ?_
  refine CW.seq ?_
  refine CW.regionD (Sq.of [0, 1, 2, 3, 4, 5, 6, 7, 8, 9, 10, 11, 12, 13, 14, 15, 16, 17, 18, 19, 20]) [] [] [0, 1, 2, 3, 4, 5, 6, 7, 8, 9, 10, 11, 12, 13, 14, 15, 16, 17, 18, 19, 20] mixed (by kernel_rfl) ?_
  refine RL.move rfl rfl rfl rfl ?_
  refine RL.nilCheck rfl rfl rfl rfl ?_
  refine RL.fieldAddr fa_76_1 rfl rfl rfl rfl ?_
  refine RL.loadTq Tryz.isAgg66 rfl rfl rfl rfl ?_
  refine RL.move rfl rfl rfl rfl ?_
  refine RL.callTq (lfails_any B.kb B.mo B.ti g.l s hmo hg.l) Tryz.call47 rfl rfl rfl rfl ?_
  refine RL.move rfl rfl rfl rfl ?_
  refine RL.nilCheck rfl rfl rfl rfl ?_
  refine RL.fieldAddr fa_76_1 rfl rfl rfl rfl ?_
  refine RL.loadTq Tryz.isAgg66 rfl rfl rfl rfl ?_
  refine RL.move rfl rfl rfl rfl ?_
  refine RL.callTq (luntil_any B.kb B.mo B.ti g.l s hmo hg.l) Tryz.call48 rfl rfl rfl rfl ?_
  refine RL.move rfl rfl rfl rfl ?_
  refine RL.nilCheck rfl rfl rfl rfl ?_
  refine RL.fieldAddr fa_76_1 rfl rfl rfl rfl ?_
  refine RL.loadTq Tryz.isAgg66 rfl rfl rfl rfl ?_
  refine RL.move rfl rfl rfl rfl ?_
  refine RL.callTq (ltotal_any B.kb B.mo B.ti g.l s hmo hg.l) Tryz.call49 rfl rfl rfl rfl ?_
  refine RL.assign rfl rfl rfl rfl ?_
  refine RL.assign rfl rfl rfl rfl ?_
  refine RL.assign rfl rfl rfl rfl ?_
  refine RL.nil ?_
  refine NQ.seq ?_
  refine CW.only (.cons (k := 4) rfl (.cons (k := 5) rfl (.cons (k := 6) rfl .nil))) ?_
  refine CW.ret ?_
  exact RQ.post (res3 rfl rfl rfl rfl) (Split.none _) ⟨rfl, rfl, rfl⟩
theorem gepoch_any (B : GB) (g : GSt) (s : Int) (hg : GOk g) : Spc Tryz.prog 12 #[.pointer (some ⟨B.gb, 0, none⟩), .int .i64 s] (GI B g) [] (Is (.int .u32 (epochM g.T s : Int))) := by
  refine Spc.enter Tryz.func12 rfl rfl rfl (fun w0 hw0 => ?_)
  refine CW.seq ?_
  refine CW.region (ef := []) (bk := []) ?_
  refine RL.assign rfl rfl rfl rfl ?_
  refine RL.nil ?_
  refine NQ.seq ?_
  refine CW.seq ?_
  refine CW.seq ?_
  refine CW.region (ef := []) (bk := []) ?_
  refine RL.move rfl rfl rfl rfl ?_
  refine RL.callvq (gis_any B) Tryz.call34 rfl rfl rfl rfl ?_
  refine RL.not rfl rfl rfl rfl ?_
  refine RL.nil ?_
  refine NQ.seq ?_
  refine CW.condF rfl (rfl) ?_
  refine CW.skip ?_
  refine NQ.seq ?_
  refine CW.seq ?_
  refine CW.region (ef := []) (bk := []) ?_
  refine RL.move rfl rfl rfl rfl ?_
  refine RL.nilCheck rfl rfl rfl rfl ?_
  refine RL.fieldAddr fa_76_0 rfl rfl rfl rfl ?_
  refine RL.loadq Tryz.isAgg69 rfl rfl rfl rfl ?_
  refine RL.move rfl rfl rfl rfl ?_
  refine RL.callvq (epoch_any B.r B.m1 B.m2 g.T g.c s hg.t) Tryz.call36 rfl rfl rfl rfl ?_
  refine RL.assign rfl rfl rfl rfl ?_
  refine RL.nil ?_
  refine NQ.seq ?_
  refine CW.only (.cons (k := 4) rfl .nil) ?_
  refine CW.ret ?_
  exact RQ.post (res1 rfl rfl) (Split.none _) ⟨rfl, rfl, rfl⟩
def lastV (M : Marks) (s : Int) : Nat × Nat := (M s).getD (0, 0)
theorem last_any (tb mt : Nat) (cm : List (Value × Value)) (M : Marks) (s : Int) (hM : MRel cm M) : Spc Tryz.prog 35 #[.pointer (some ⟨tb, 0, none⟩), .int .i64 s] [tabI tb mt, mksI mt cm] [] (Is (.tuple #[mkV (lastV M s), .bool (M s).isSome])) := by
  refine Spc.enter Tryz.func35 rfl rfl rfl (fun w0 hw0 => ?_)
  refine CW.seq ?_
  refine CW.region (ef := [0]) (bk := []) ?_
  refine RL.alloc Tryz.zeroValue40 rfl rfl rfl rfl rfl ?_
  intro b1
  refine RL.assign rfl rfl rfl rfl ?_
  refine RL.nil ?_
  refine NQ.seq ?_
  refine CW.seq ?_
  refine CW.seq ?_
  refine CW.region (ef := []) (bk := []) ?_
  refine RL.move rfl rfl rfl rfl ?_
  refine RL.callvq (ris_any tb mt) Tryz.call62 rfl rfl rfl rfl ?_
  refine RL.not rfl rfl rfl rfl ?_
  refine RL.nil ?_
  refine NQ.seq ?_
  refine CW.condF rfl (rfl) ?_
  refine CW.skip ?_
  refine NQ.seq ?_
  refine CW.seq ?_
  refine CW.region (ef := [9, 10]) (bk := [10]) ?_
  refine RL.move rfl rfl rfl rfl ?_
  refine RL.nilCheck rfl rfl rfl rfl ?_
  refine RL.fieldAddr fa_129_0 rfl rfl rfl rfl ?_
  refine RL.loadq Tryz.isAgg127 rfl rfl rfl rfl ?_
  refine RL.move rfl rfl rfl rfl ?_
  refine RL.lookupOk keyI Tryz.runUnderlying127 Tryz.zeroValue40 rfl rfl rfl rfl rfl ⟨s, rfl⟩ (MapAt.told (by repeat (first | exact List.Mem.head _ | apply List.Mem.tail))) ?_
  rw [show lookV (.int .i64 s) cm = _ from hM s, lastV]
  cases hq : M s with
  | none =>
    refine RL.move rfl rfl rfl rfl ?_
    refine RL.extract rfl rfl rfl rfl rfl ?_
    refine RL.extract rfl rfl rfl rfl rfl ?_
    refine RL.alloc Tryz.zeroValue40 rfl rfl rfl rfl rfl ?_
    intro b2
    refine RL.store (vs := [_, _]) Tryz.sizeOf40 rfl rfl rfl rfl rfl rfl rfl rfl rfl (by repeat (first | exact Upd.here | apply Upd.there)) ?_
    refine RL.assign rfl rfl rfl rfl ?_
    refine RL.nil ?_
    refine NQ.seq ?_
    refine CW.only (.cons (k := 4) rfl (.cons (k := 6) rfl (.cons (k := 7) rfl .nil))) ?_
    refine CW.seq ?_
    refine CW.region (ef := [2]) (bk := [2]) ?_
    first | refine RL.loadM Tryz.isAgg40 Tryz.sizeOf40 rfl rfl rfl rfl (by assumption) ?_ | refine RL.loadA Tryz.isAgg40 Tryz.sizeOf40 rfl rfl rfl rfl (by first | assumption | (apply RdsI.rds; assumption)) (by first | rfl | assumption | (simp only [List.length_map]; assumption) | (simp only [List.length_map, List.length_replicate]; done) | (simp; done)) ?_ | refine RL.loadW Tryz.isAgg40 Tryz.sizeOf40 rfl rfl rfl rfl (by (solve | (repeat (first | exact List.Mem.head _ | apply List.Mem.tail)))) (by first | rfl | assumption | (simp only [List.length_map]; assumption) | (simp only [List.length_map, List.length_replicate]; done) | (simp; done)) ?_
    refine RL.move rfl rfl rfl rfl ?_
    refine RL.store (vs := [_, _]) Tryz.sizeOf40 rfl rfl rfl rfl rfl rfl rfl rfl rfl (by repeat (first | exact Upd.here | apply Upd.there)) ?_
    refine RL.assign rfl rfl rfl rfl ?_
    refine RL.nil ?_
    refine NQ.seq ?_
    refine CW.ret ?_
    exact RQ.post (resWT rfl rfl rfl Tryz.isAgg40 Tryz.sizeOf40 (by repeat (first | exact List.Mem.head _ | apply List.Mem.tail)) rfl) (Split.none _) ⟨rfl, rfl, rfl⟩
  | some q =>
    obtain ⟨c, d⟩ := q
    refine RL.move rfl rfl rfl rfl ?_
    refine RL.extract rfl rfl rfl rfl rfl ?_
    refine RL.extract rfl rfl rfl rfl rfl ?_
    refine RL.alloc Tryz.zeroValue40 rfl rfl rfl rfl rfl ?_
    intro b2
    refine RL.store (vs := [_, _]) Tryz.sizeOf40 rfl rfl rfl rfl rfl rfl rfl rfl rfl (by repeat (first | exact Upd.here | apply Upd.there)) ?_
    refine RL.assign rfl rfl rfl rfl ?_
    refine RL.nil ?_
    refine NQ.seq ?_
    refine CW.only (.cons (k := 4) rfl (.cons (k := 6) rfl (.cons (k := 7) rfl .nil))) ?_
    refine CW.seq ?_
    refine CW.region (ef := [2]) (bk := [2]) ?_
    first | refine RL.loadM Tryz.isAgg40 Tryz.sizeOf40 rfl rfl rfl rfl (by assumption) ?_ | refine RL.loadA Tryz.isAgg40 Tryz.sizeOf40 rfl rfl rfl rfl (by first | assumption | (apply RdsI.rds; assumption)) (by first | rfl | assumption | (simp only [List.length_map]; assumption) | (simp only [List.length_map, List.length_replicate]; done) | (simp; done)) ?_ | refine RL.loadW Tryz.isAgg40 Tryz.sizeOf40 rfl rfl rfl rfl (by (solve | (repeat (first | exact List.Mem.head _ | apply List.Mem.tail)))) (by first | rfl | assumption | (simp only [List.length_map]; assumption) | (simp only [List.length_map, List.length_replicate]; done) | (simp; done)) ?_
    refine RL.move rfl rfl rfl rfl ?_
    refine RL.store (vs := [_, _]) Tryz.sizeOf40 rfl rfl rfl rfl rfl rfl rfl rfl rfl (by repeat (first | exact Upd.here | apply Upd.there)) ?_
    refine RL.assign rfl rfl rfl rfl ?_
    refine RL.nil ?_
    refine NQ.seq ?_
    refine CW.ret ?_
    exact RQ.post (resWT rfl rfl rfl Tryz.isAgg40 Tryz.sizeOf40 (by repeat (first | exact List.Mem.head _ | apply List.Mem.tail)) rfl) (Split.none _) ⟨rfl, rfl, rfl⟩
theorem gmark_any (B : GB) (g : GSt) (s : Int) (hg : GOk g) : Spc Tryz.prog 11 #[.pointer (some ⟨B.gb, 0, none⟩), .int .i64 s] (GI B g) [] (Is (.tuple #[mkV (lastV g.M s), .bool (g.M s).isSome])) := by
  refine Spc.enter Tryz.func11 rfl rfl rfl (fun w0 hw0 => ?_)
  refine CW.seq ?_
  refine CW.region (ef := [0]) (bk := []) ?_
  refine RL.alloc Tryz.zeroValue40 rfl rfl rfl rfl rfl ?_
  intro b1
  refine RL.assign rfl rfl rfl rfl ?_
  refine RL.nil ?_
  refine NQ.seq ?_
  refine CW.seq ?_
  refine CW.seq ?_
  refine CW.region (ef := []) (bk := []) ?_
  refine RL.move rfl rfl rfl rfl ?_
  refine RL.callvq (gis_any B) Tryz.call34 rfl rfl rfl rfl ?_
  refine RL.not rfl rfl rfl rfl ?_
  refine RL.nil ?_
  refine NQ.seq ?_
  refine CW.condF rfl (rfl) ?_
  refine CW.skip ?_
  refine NQ.seq ?_
  refine CW.seq ?_
  refine CW.region (ef := [8]) (bk := [8]) ?_
  refine RL.move rfl rfl rfl rfl ?_
  refine RL.nilCheck rfl rfl rfl rfl ?_
  refine RL.fieldAddr fa_76_2 rfl rfl rfl rfl ?_
  refine RL.loadq Tryz.isAgg71 rfl rfl rfl rfl ?_
  refine RL.move rfl rfl rfl rfl ?_
  refine RL.callvq (last_any B.tb B.mt g.cm g.M s hg.m) Tryz.call35 rfl rfl rfl rfl ?_
  refine RL.extract rfl rfl rfl rfl rfl ?_
  refine RL.extract rfl rfl rfl rfl rfl ?_
  refine RL.store (vs := [_, _]) Tryz.sizeOf40 rfl rfl rfl rfl rfl rfl rfl rfl rfl (by repeat (first | exact Upd.here | apply Upd.there)) ?_
  refine RL.assign rfl rfl rfl rfl ?_
  refine RL.nil ?_
  refine NQ.seq ?_
  refine CW.only (.cons (k := 4) rfl (.cons (k := 5) rfl .nil)) ?_
  refine CW.ret ?_
  exact RQ.post (resWT rfl rfl rfl Tryz.isAgg40 Tryz.sizeOf40 (by repeat (first | exact List.Mem.head _ | apply List.Mem.tail)) rfl) (Split.none _) ⟨rfl, rfl, rfl⟩
end Go.Proofs.YtkkfdoippibfkaaGreat

namespace Go.Proofs.YtkkfdoippibfkaaGreat
open Go.PK

/-! ### Roll and Raise -/
theorem take_gt {M : Marks} {s : Int} {p : Nat × Nat} (hm : mayB s = true) : mmay M s p = 0 ↔ (!(M s).isSome || gtB p (lastV M s)) = true := by
  rw [mmay, if_pos hm, lastV]
  cases hq : M s with
  | none => simp
  | some q =>
    dsimp only
    by_cases h : gtB p q = true
    · rw [if_pos h]; simp [h]
    · rw [if_neg h]; simp [h]
theorem traise_any (tb mt : Nat) (cm : List (Value × Value)) (M : Marks) (s : Int) (p : Nat × Nat) (hM : MRel cm M) : Spc Tryz.prog 58 #[.pointer (some ⟨tb, 0, none⟩), .int .i64 s, mkV p] [] [tabI tb mt, mksI mt cm] (TakeR tb mt (takeM M s p) (if mayB s = true then 0 else 2)) := by
  refine Spc.enter Tryz.func58 rfl rfl rfl (fun w0 hw0 => ?_)
  refine CW.seq ?_
  refine CW.region (ef := [0]) (bk := []) ?_
  refine RL.box rfl rfl rfl rfl rfl rfl ?_
  intro b1
  refine RL.assign rfl rfl rfl rfl ?_
  refine RL.nil ?_
  refine NQ.seq ?_
  refine CW.seq ?_
  refine CW.region (ef := []) (bk := []) ?_
  refine RL.move rfl rfl rfl rfl ?_
  refine RL.move rfl rfl rfl rfl ?_
  refine RL.callvq (rpmay_any tb mt s) Tryz.call79 rfl rfl rfl rfl ?_
  refine RL.assign rfl rfl rfl rfl ?_
  refine RL.nil ?_
  refine NQ.seq ?_
  refine CW.seq ?_
  refine CW.seq ?_
  refine CW.region (ef := [6, 7]) (bk := [7]) ?_
  refine RL.move rfl rfl rfl rfl ?_
  refine RL.move rfl rfl rfl rfl ?_
  refine RL.callvq (last_any tb mt cm M s hM) Tryz.call35 rfl rfl rfl rfl ?_
  refine RL.move rfl rfl rfl rfl ?_
  refine RL.extract rfl rfl rfl rfl rfl ?_
  refine RL.extract rfl rfl rfl rfl rfl ?_
  refine RL.alloc Tryz.zeroValue40 rfl rfl rfl rfl rfl ?_
  intro b2
  refine RL.store (vs := [_, _]) Tryz.sizeOf40 rfl rfl rfl rfl rfl rfl rfl rfl rfl (by repeat (first | exact Upd.here | apply Upd.there)) ?_
  refine RL.assign rfl rfl rfl rfl ?_
  refine RL.nil ?_
  refine NQ.seq ?_
  refine CW.only (.cons (k := 0) rfl (.cons (k := 1) rfl (.cons (k := 5) rfl (.cons (k := 6) rfl (.cons (k := 7) rfl (.cons (k := 8) rfl (.cons (k := 9) rfl .nil))))))) ?_
  refine CW.seq ?_
  refine CW.region (ef := []) (bk := []) ?_
  refine RL.move rfl rfl rfl rfl ?_
  refine RL.bin rfl rfl rfl rfl rfl rfl ?_
  refine RL.move rfl rfl rfl rfl ?_
  apply RL.andB (d := 21) (dp := 29) (l' := (Sq.of [])) rfl (.cons (k := 0) rfl (.cons (k := 1) rfl (.cons (k := 5) rfl (.cons (k := 6) rfl (.cons (k := 7) rfl .nil)))))
  ·
    intro hb3 K3
    refine RL.move rfl rfl rfl rfl ?_
    refine RL.not rfl rfl rfl rfl ?_
    refine RL.move rfl rfl rfl rfl ?_
    apply RL.orB (d := 24) (dp := 28) (l' := (Sq.of [10])) rfl (.cons (k := 0) rfl (.cons (k := 1) rfl (.cons (k := 5) rfl (.cons (k := 6) rfl (.cons (k := 7) rfl (.cons (k := 21) rfl .nil))))))
    ·
      intro hb6 K6
      first | refine RL.loadM Tryz.isAgg40 Tryz.sizeOf40 rfl rfl rfl rfl (by assumption) ?_ | refine RL.loadA Tryz.isAgg40 Tryz.sizeOf40 rfl rfl rfl rfl (by first | assumption | (apply RdsI.rds; assumption)) (by first | rfl | assumption | (simp only [List.length_map]; assumption) | (simp only [List.length_map, List.length_replicate]; done) | (simp; done)) ?_ | refine RL.loadW Tryz.isAgg40 Tryz.sizeOf40 rfl rfl rfl rfl (by (solve | (repeat (first | exact List.Mem.head _ | apply List.Mem.tail)))) (by first | rfl | assumption | (simp only [List.length_map]; assumption) | (simp only [List.length_map, List.length_replicate]; done) | (simp; done)) ?_
      first | refine RL.loadM Tryz.isAgg40 Tryz.sizeOf40 rfl rfl rfl rfl (by assumption) ?_ | refine RL.loadA Tryz.isAgg40 Tryz.sizeOf40 rfl rfl rfl rfl (by first | assumption | (apply RdsI.rds; assumption)) (by first | rfl | assumption | (simp only [List.length_map]; assumption) | (simp only [List.length_map, List.length_replicate]; done) | (simp; done)) ?_ | refine RL.loadW Tryz.isAgg40 Tryz.sizeOf40 rfl rfl rfl rfl (by (solve | (repeat (first | exact List.Mem.head _ | apply List.Mem.tail)))) (by first | rfl | assumption | (simp only [List.length_map]; assumption) | (simp only [List.length_map, List.length_replicate]; done) | (simp; done)) ?_
      refine RL.callvq (greater_any p (lastV M s)) Tryz.call15 rfl rfl rfl rfl ?_
      refine RL.pickF rfl rfl rfl rfl rfl ?_
      exact K6 _ (.cons rfl (.cons (k := 0) rfl (.cons (k := 1) rfl (.cons (k := 5) rfl (.cons (k := 6) rfl (.cons (k := 7) rfl (.cons (k := 21) rfl .nil)))))))
    ·
      intro hb6 K6
      refine RL.skip rfl rfl rfl rfl ?_
      refine RL.skip rfl rfl rfl rfl ?_
      refine RL.skip rfl rfl rfl rfl ?_
      refine RL.pickT rfl rfl rfl rfl rfl ?_
      exact K6 _ (.cons rfl (.cons (k := 0) rfl (.cons (k := 1) rfl (.cons (k := 5) rfl (.cons (k := 6) rfl (.cons (k := 7) rfl (.cons (k := 21) rfl .nil)))))))
    refine RL.pickT rfl rfl rfl rfl rfl ?_
    exact K3 _ (.cons rfl (.cons (k := 0) rfl (.cons (k := 1) rfl (.cons (k := 5) rfl (.cons (k := 6) rfl (.cons (k := 7) rfl .nil))))))
  ·
    intro hb3 K3
    refine RL.skip rfl rfl rfl rfl ?_
    refine RL.skip rfl rfl rfl rfl ?_
    refine RL.skip rfl rfl rfl rfl ?_
    refine RL.skip rfl rfl rfl rfl ?_
    refine RL.skip rfl rfl rfl rfl ?_
    refine RL.skip rfl rfl rfl rfl ?_
    refine RL.skip rfl rfl rfl rfl ?_
    refine RL.pickF rfl rfl rfl rfl rfl ?_
    exact K3 _ (.cons rfl (.cons (k := 0) rfl (.cons (k := 1) rfl (.cons (k := 5) rfl (.cons (k := 6) rfl (.cons (k := 7) rfl .nil))))))
  refine RL.nil ?_
  refine NQ.seq ?_
  refine CW.cond rfl (fun h => ?_) (fun h => ?_)
  ·
    refine CW.regionD (Sq.of [0, 1, 2, 3, 4, 5, 6]) [6] [6] [0, 1, 2, 4] mixed (by kernel_rfl) ?_
    refine RL.move rfl rfl rfl rfl ?_
    refine RL.nilCheck rfl rfl rfl rfl ?_
    refine RL.fieldAddr fa_129_0 rfl rfl rfl rfl ?_
    refine RL.loadq Tryz.isAgg127 rfl rfl rfl rfl ?_
    refine RL.move rfl rfl rfl rfl ?_
    first | refine RL.loadM Tryz.isAgg40 Tryz.sizeOf40 rfl rfl rfl rfl (by assumption) ?_ | refine RL.loadA Tryz.isAgg40 Tryz.sizeOf40 rfl rfl rfl rfl (by first | assumption | (apply RdsI.rds; assumption)) (by first | rfl | assumption | (simp only [List.length_map]; assumption) | (simp only [List.length_map, List.length_replicate]; done) | (simp; done)) ?_ | refine RL.loadW Tryz.isAgg40 Tryz.sizeOf40 rfl rfl rfl rfl (by (solve | (repeat (first | exact List.Mem.head _ | apply List.Mem.tail)))) (by first | rfl | assumption | (simp only [List.length_map]; assumption) | (simp only [List.length_map, List.length_replicate]; done) | (simp; done)) ?_
    have hm : mayB s = true := by
      by_cases hm : mayB s = true
      · exact hm
      · rw [if_neg hm] at h; simp at h
    have h0 : mmay M s p = 0 := (take_gt hm).2 (by rw [if_pos hm] at h; simpa using h)
    refine RL.mapUpdate keyI Tryz.runUnderlying127 rfl rfl rfl rfl rfl rfl rfl ⟨s, rfl⟩ (by repeat (first | exact Upd.here | apply Upd.there)) ?_
    refine RL.nil ?_
    refine NQ.seq ?_
    refine CW.only (.cons (k := 7) rfl .nil) ?_
    refine CW.seq ?_
    refine CW.region (ef := []) (bk := []) ?_
    refine RL.move rfl rfl rfl rfl ?_
    refine RL.assign rfl rfl rfl rfl ?_
    refine RL.nil ?_
    refine NQ.seq ?_
    refine CW.ret ?_
    exact RQ.post (res1 rfl rfl) (.drop (.drop (.keep (.keep .nil)))) ⟨rfl, rfl, _, by rw [takeM, if_pos h0]; exact hM.set s p, rfl⟩
  ·
    refine CW.skip ?_
    refine NQ.seq ?_
    refine CW.seq ?_
    refine CW.region (ef := []) (bk := []) ?_
    refine RL.move rfl rfl rfl rfl ?_
    refine RL.assign rfl rfl rfl rfl ?_
    refine RL.nil ?_
    refine NQ.seq ?_
    refine CW.only (.cons (k := 6) rfl .nil) ?_
    refine CW.ret ?_
    have h0 : ¬ mmay M s p = 0 := fun h0 => by
      have hm := mmay_may h0
      have := (take_gt hm).1 h0
      rw [if_pos hm, this] at h
      cases h
    exact RQ.post (res1 rfl rfl) (.drop (.drop (.keep (.keep .nil)))) ⟨rfl, rfl, cm, by rw [takeM, if_neg h0]; exact hM, rfl⟩
def GRollR (B : GB) (g : GSt) (T' : List One) (x : Int) : Value → List It → List It → Prop := fun v I' H' => v = .int .i64 x ∧ I' = [] ∧ ∃ c', KOk T' c' ∧ H' = GI B { g with T := T', c := c' }
theorem groll_any (B : GB) (g : GSt) (s : Int) (e' : Nat) (t gr : Int) (hg : GOk g) (he : e' < 4294967296) : Spc Tryz.prog 29 #[.pointer (some ⟨B.gb, 0, none⟩), .int .i64 s, .int .u32 (e' : Int), .int .i64 t, .int .i64 gr] [] (GI B g) (GRollR B g (rollT g.T s e' t gr) (rollE g.T s e' t gr)) := by
  refine Spc.enter Tryz.func29 rfl rfl rfl (fun w0 hw0 => ?_)
  refine CW.seq ?_
  refine CW.region (ef := []) (bk := []) ?_
  refine RL.assign rfl rfl rfl rfl ?_
  refine RL.nil ?_
  refine NQ.seq ?_
  refine CW.seq ?_
  refine CW.seq ?_
  refine CW.region (ef := []) (bk := []) ?_
  refine RL.move rfl rfl rfl rfl ?_
  refine RL.callvq (gis_any B) Tryz.call34 rfl rfl rfl rfl ?_
  refine RL.not rfl rfl rfl rfl ?_
  refine RL.nil ?_
  refine NQ.seq ?_
  refine CW.condF rfl (rfl) ?_
  refine CW.skip ?_
  refine NQ.seq ?_
  refine CW.seq ?_
  refine CW.region (ef := [8]) (bk := [8]) ?_
  refine RL.move rfl rfl rfl rfl ?_
  refine RL.nilCheck rfl rfl rfl rfl ?_
  refine RL.fieldAddr fa_76_0 rfl rfl rfl rfl ?_
  refine RL.loadq Tryz.isAgg69 rfl rfl rfl rfl ?_
  refine RL.move rfl rfl rfl rfl ?_
  refine RL.move rfl rfl rfl rfl ?_
  refine RL.move rfl rfl rfl rfl ?_
  refine RL.move rfl rfl rfl rfl ?_
  refine RL.callq (roll_any B.r B.m1 B.m2 g.T g.c s e' t gr hg.t hg.k he) Tryz.call54 rfl rfl rfl rfl rfl (.inr rfl) ?_
  rintro _ _ _ ⟨rfl, rfl, c', hc', rfl⟩
  refine RL.assign rfl rfl rfl rfl ?_
  refine RL.nil ?_
  refine NQ.seq ?_
  refine CW.only (.cons (k := 10) rfl .nil) ?_
  refine CW.ret ?_
  refine RQ.rea (fun _ h => h) (H' := GI B ({ g with T := rollT g.T s e' t gr, c := c' })) (by repeat (first | exact Rea.nil | (apply Rea.cons; (solve | (repeat (first | exact Del.here | apply Del.there)))))) ?_
  exact RQ.post (res1 rfl rfl) (.keep (.keep (.keep (.keep (.keep (.keep (.keep .nil))))))) ⟨rfl, rfl, c', hc', rfl⟩
def graE (g : GSt) (s : Int) (p : Nat × Nat) : Int := if raiseE g.T s p.1 = 0 then (if mayB s = true then 0 else 2) else raiseE g.T s p.1
def graM (g : GSt) (s : Int) (p : Nat × Nat) : Marks := if raiseE g.T s p.1 = 0 then takeM g.M s p else g.M
def GRaiseR (B : GB) (g : GSt) (T' : List One) (M' : Marks) (x : Int) : Value → List It → List It → Prop := fun v I' H' => v = .int .i64 x ∧ I' = [] ∧ ∃ c' cm', KOk T' c' ∧ MRel cm' M' ∧ H' = GI B { g with T := T', c := c', M := M', cm := cm' }
theorem graise_any (B : GB) (g : GSt) (s : Int) (p : Nat × Nat) (hg : GOk g) (he : p.1 < 4294967296) : Spc Tryz.prog 31 #[.pointer (some ⟨B.gb, 0, none⟩), .int .i64 s, mkV p] [] (GI B g) (GRaiseR B g (raiseT g.T s p.1) (graM g s p) (graE g s p)) := by
  refine Spc.enter Tryz.func31 rfl rfl rfl (fun w0 hw0 => ?_)
  refine CW.seq ?_
  refine CW.region (ef := [0]) (bk := []) ?_
  refine RL.box rfl rfl rfl rfl rfl rfl ?_
  intro b1
  refine RL.assign rfl rfl rfl rfl ?_
  refine RL.nil ?_
  refine NQ.seq ?_
  refine CW.seq ?_
  refine CW.seq ?_
  refine CW.region (ef := []) (bk := []) ?_
  refine RL.move rfl rfl rfl rfl ?_
  refine RL.callvq (gis_any B) Tryz.call34 rfl rfl rfl rfl ?_
  refine RL.not rfl rfl rfl rfl ?_
  refine RL.nil ?_
  refine NQ.seq ?_
  refine CW.condF rfl (rfl) ?_
  refine CW.skip ?_
  refine NQ.seq ?_
  refine CW.seq ?_
  refine CW.seq ?_
  refine CW.regionD (Sq.of [0, 1, 2, 3, 4, 5, 6, 7, 8]) [7] [7] [0, 1, 2, 4, 5, 8] mixed (by kernel_rfl) ?_
  refine RL.move rfl rfl rfl rfl ?_
  refine RL.nilCheck rfl rfl rfl rfl ?_
  refine RL.fieldAddr fa_76_0 rfl rfl rfl rfl ?_
  refine RL.loadq Tryz.isAgg69 rfl rfl rfl rfl ?_
  refine RL.move rfl rfl rfl rfl ?_
  refine RL.fieldAddr fa_40_0 rfl rfl rfl rfl ?_
  refine RL.loadq Tryz.isAgg32 rfl rfl rfl rfl ?_
  refine RL.callq (raise_any B.r B.m1 B.m2 g.T g.c s p.1 hg.t hg.k he) Tryz.call57 rfl rfl rfl rfl rfl (.inr rfl) ?_
  rintro _ _ _ ⟨rfl, rfl, c', hc', rfl⟩
  refine RL.assign rfl rfl rfl rfl ?_
  refine RL.nil ?_
  refine NQ.seq ?_
  refine CW.only (.cons (k := 0) rfl (.cons (k := 1) rfl (.cons (k := 5) rfl (.cons (k := 6) rfl (.cons (k := 7) rfl .nil))))) ?_
  refine CW.seq ?_
  refine CW.region (ef := []) (bk := []) ?_
  refine RL.move rfl rfl rfl rfl ?_
  refine RL.bin rfl rfl rfl rfl rfl rfl ?_
  refine RL.nil ?_
  refine NQ.seq ?_
  refine CW.cond rfl (fun h => ?_) (fun h => ?_)
  ·
    refine CW.seq ?_
    refine CW.region (ef := []) (bk := []) ?_
    refine RL.move rfl rfl rfl rfl ?_
    refine RL.assign rfl rfl rfl rfl ?_
    refine RL.nil ?_
    refine NQ.seq ?_
    refine CW.ret ?_
    refine RQ.seq ?_
    have h : ¬ raiseE g.T s p.1 = 0 := by simpa using h
    have hM : graM g s p = g.M := by rw [graM, if_neg h]
    rw [hM]
    refine RQ.rea (fun _ h => h) (H' := GI B ({ g with T := raiseT g.T s p.1, c := c' })) (by repeat (first | exact Rea.nil | (apply Rea.cons; (solve | (repeat (first | exact Del.here | apply Del.there)))))) ?_
    exact RQ.post (res1 rfl rfl) (.keep (.keep (.keep (.keep (.keep (.keep (.keep .nil))))))) ⟨by rw [graE, if_neg h], rfl, c', g.cm, hc', hg.m, rfl⟩
  ·
    refine CW.skip ?_
    refine NQ.seq ?_
    refine CW.seq ?_
    refine CW.regionD (Sq.of [0, 1, 2, 3, 4, 5, 6, 7]) [6] [6] [0, 1, 2, 4, 7] mixed (by kernel_rfl) ?_
    refine RL.move rfl rfl rfl rfl ?_
    refine RL.nilCheck rfl rfl rfl rfl ?_
    refine RL.fieldAddr fa_76_2 rfl rfl rfl rfl ?_
    refine RL.loadq Tryz.isAgg71 rfl rfl rfl rfl ?_
    refine RL.move rfl rfl rfl rfl ?_
    first | refine RL.loadM Tryz.isAgg40 Tryz.sizeOf40 rfl rfl rfl rfl (by assumption) ?_ | refine RL.loadA Tryz.isAgg40 Tryz.sizeOf40 rfl rfl rfl rfl (by first | assumption | (apply RdsI.rds; assumption)) (by first | rfl | assumption | (simp only [List.length_map]; assumption) | (simp only [List.length_map, List.length_replicate]; done) | (simp; done)) ?_ | refine RL.loadW Tryz.isAgg40 Tryz.sizeOf40 rfl rfl rfl rfl (by (solve | (repeat (first | exact List.Mem.head _ | apply List.Mem.tail)))) (by first | rfl | assumption | (simp only [List.length_map]; assumption) | (simp only [List.length_map, List.length_replicate]; done) | (simp; done)) ?_
    refine RL.callq (traise_any B.tb B.mt g.cm g.M s p hg.m) Tryz.call58 rfl rfl rfl rfl rfl (.inr rfl) ?_
    have h : raiseE g.T s p.1 = 0 := by simpa using h
    have hM : graM g s p = takeM g.M s p := by rw [graM, if_pos h]
    rw [hM]
    rintro _ _ _ ⟨rfl, rfl, cm', hcm', rfl⟩
    refine RL.assign rfl rfl rfl rfl ?_
    refine RL.nil ?_
    refine NQ.seq ?_
    refine CW.only (.cons (k := 6) rfl .nil) ?_
    refine CW.ret ?_
    refine RQ.rea (fun _ h => h) (H' := GI B ({ g with T := raiseT g.T s p.1, c := c', M := takeM g.M s p, cm := cm' })) (by repeat (first | exact Rea.nil | (apply Rea.cons; (solve | (repeat (first | exact Del.here | apply Del.there)))))) ?_
    exact RQ.post (res1 rfl rfl) (.keep (.keep (.keep (.keep (.keep (.keep (.keep .nil))))))) ⟨by rw [graE, if_pos h], rfl, c', cm', hc', hcm', rfl⟩
end Go.Proofs.YtkkfdoippibfkaaGreat
