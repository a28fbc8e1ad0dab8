import Derived.Test.YthgjgeapfndeeaaGreatDoorHB
import Derived.Test.YthgjgeapfndeeaaGreatDoorPE
set_option linter.unusedVariables false
set_option linter.unusedSimpArgs false
namespace Go.Proofs.YthgjgeapfndeeaaGreatDoor
open Go.PK

def OwnX (l : List B8) : Value → List It → List It → Prop := fun v I' H' => ∃ ob cap, v = slO ob l.length cap ∧ I' = [] ∧ H' = [own ob cap 5 1 l.length (bytes l)]
theorem ones_u8 (l : List B8) : ∀ u ∈ bytes l, u.oneCell' = true := fun u hu => by
  obtain ⟨b, -, rfl⟩ := List.mem_map.1 hu; rfl
theorem bytes_app (a b : List B8) : bytes (a ++ b) = bytes a ++ bytes b := List.map_append
theorem growB_nil (n : Nat) (hn : n ≤ 1000000) : Spc Tryz.prog 188 #[.slice none 0 0, .int .i64 (n : Int)] [] []
    (fun v I' H' => ∃ ob cap, v = slO ob 0 cap ∧ I' = [] ∧ H' = [own ob cap 5 1 0 []]) := by
  refine Spc.enter Tryz.func188 rfl rfl rfl (fun w0 hw0 => ?_)
  refine CW.seq (CW.rg (RL.p rfl (RL.nil (NQ.seq (CW.seq (CW.seq (CW.rg (RL.p rfl (RL.p rfl (RL.nil (NQ.seq (CW.condF rfl ((by simp)) ?_))))))))))))
  refine CW.skip (NQ.seq (CW.seq (CW.seq (CW.rg (RL.p rfl (RL.p rfl (RL.capS Tryz.runUnderlying22 rfl rfl rfl rfl (RL.p rfl (RL.lenS Tryz.runUnderlying22 rfl rfl rfl rfl (RL.bx rfl (wrapV_i64 (by omega) (by omega)) ?_))))))))))
  refine RL.bx rfl (wrapV_i64 (by omega) (by omega)) ?_
  refine RL.p rfl (RL.nil (NQ.seq (CW.ok [0, 1, 4] rfl (CW.seq (CW.rg (RL.p rfl (RL.p rfl (RL.nil (NQ.seq ?_)))))))))
  refine CW.cond rfl (fun hp => ?_) (fun hp => ?_)
  ·
    have hp : 0 < n := by simp at hp; omega
    refine CW.region (ef := [5]) (bk := [5]) (RL.p rfl (RL.p rfl (RL.capS Tryz.runUnderlying22 rfl rfl rfl rfl (RL.slice (lo := 0) (hi := 0) Tryz.runUnderlying22 Tryz.sizeOf5 rfl rfl rfl rfl rfl rfl (by omega) (by omega) ?_))))
    refine RL.p rfl (RL.appendMk0 (mm := n) (zs := [.int .u8 0]) el_22 (fun ii z hi hz => by rw [show Tryz.prog.info? 5 = some Tryz.t5 by kernel_rfl] at hi; cases hi; cases hz; rfl) rfl Tryz.runUnderlying3 rfl rfl rfl rfl rfl (by show _ = some (Value.int .i64 ((n : Nat) : Int)); simp [Env.ev, Env.get]) hp (by first | omega | (simp only [maxLen]; omega)) (by first | omega | (simp only [maxLen]; omega)) ?_)
    intro b cap'
    refine RL.p rfl (RL.lenS Tryz.runUnderlying22 rfl rfl rfl rfl (RL.slice (lo := 0) (hi := 0) Tryz.runUnderlying22 Tryz.sizeOf5 rfl rfl rfl rfl rfl rfl (by omega) (by omega) ?_))
    refine RL.cast (d := 25) (v' := .slice (some ⟨b, 0, none⟩) 0 cap') rfl (by simp only [Nat.sub_zero]; congr 1; split <;> simp [add_none]) ?_
    refine RL.p rfl (RL.nil (NQ.seq (CW.ok [0] rfl (CW.seq (CW.rg (RL.p rfl (RL.p rfl (RL.nil (NQ.seq (CW.ret ?_))))))))))
    exact RQ.post (res1 rfl rfl) (.keep .nil) ⟨some b, cap', rfl, rfl, rfl⟩
  ·
    refine CW.skip (NQ.seq (CW.seq (CW.rg (RL.p rfl (RL.p rfl (RL.nil (NQ.seq (CW.ret (RQ.ownNone (e := 5) 1 ?_)))))))))
    exact RQ.post (res1 rfl rfl) (.keep .nil) ⟨none, 0, rfl, rfl, rfl⟩
theorem concatB_any (pp : Option Addr) (cap n : Nat) (ps : List Part) (hn : ps.length = n) (hnb : n ≤ 1000000) (hb : (joined ps).length ≤ 1000000) :
    Spc Tryz.prog 102 #[.slice pp n cap] (sls pp 1 n (ps.map Part.v) :: ps.map Part.i) [] (OwnX (joined ps)) := by
  subst hn
  generalize hBase : sls pp 1 ps.length (ps.map Part.v) :: ps.map Part.i = Base
  have hmem : sls pp 1 ps.length (ps.map Part.v) ∈ Base := by rw [← hBase]; exact List.Mem.head _
  have hpm : ∀ x ∈ ps, Part.i x ∈ Base := fun x hx => by rw [← hBase]; exact List.mem_cons_of_mem _ (List.mem_map_of_mem hx)
  clear hBase
  refine Spc.enter Tryz.func102 rfl rfl rfl (fun w0 hw0 => ?_)
  refine CW.seq (CW.rg (RL.p rfl (RL.nil (NQ.seq (CW.seq (CW.rg (RL.p rfl (RL.nil (NQ.seq (CW.seq (CW.seq (CW.rg (RL.p rfl ?_)))))))))))))
  refine RL.lenS Tryz.runUnderlying397 rfl rfl rfl rfl (RL.p rfl (RL.nil (NQ.seq (CW.block ?_))))
  refine CW.fact (p := pp = none → ps.length = 0) (fun w hC e => sls_nil (hC.s.i _ hmem) e) (fun hpp => ?_)
  refine CW.loop (γ := Nat) (fun i => i ≤ ps.length) (fun i => [(0, .slice pp ps.length cap), (3, .int .i64 ((joined (ps.take i)).length : Int)), (9, .slice pp ps.length cap), (10, .int .i64 (ps.length : Int)), (11, .int .i64 (i : Int))]) (fun _ => Base) (fun _ => []) (fun i => ps.length - i) 0 (by omega)
    (.cons rfl (.cons rfl (.cons rfl (.cons rfl (.cons rfl .nil))))) (fun w h => h) ?_
  intro i hi
  have hle := joined_le ps i
  have hle1 := joined_le ps (i + 1)
  refine CW.seq (CW.rg (RL.p rfl (RL.nil (NQ.seq (CW.seq ?_)))))
  refine CW.cond rfl (fun hlt => ?_) (fun hlt => ?_)
  ·
    have hlt : i < ps.length := by simp at hlt; omega
    cases pp with
    | none => exact absurd (hpp rfl) (by omega)
    | some a =>
    have hv : (ps.map Part.v)[i * 1]? = some (.slice ps[i].p ps[i].m.length ps[i].c) := by rw [Nat.mul_one, List.getElem?_map, List.getElem?_eq_getElem hlt]; rfl
    rw [joined_succ hlt, List.length_append] at hle1
    refine CW.skip (NQ.seq (CW.seq (CW.block (CW.seq (CW.rg (RL.idx (j := i) Tryz.runUnderlying397 Tryz.sizeOf22 rfl rfl rfl rfl rfl rfl hlt (RL.load Tryz.isAgg22 rfl rfl rfl rfl (Rd.getS hmem hv) (RL.p rfl (RL.nil (NQ.seq (CW.seq (CW.rg (RL.p rfl ?_)))))))))))))
    refine RL.p rfl (RL.lenS Tryz.runUnderlying22 rfl rfl rfl rfl (RL.bx rfl (wrapV_i64 (by omega) (by omega)) ?_))
    refine RL.p rfl (RL.nil (NQ.seq (CW.ok [0, 3, 9, 10, 11] rfl (CW.seq (CW.rg (RL.p rfl (RL.p rfl (RL.nil (NQ.seq (CW.condF rfl (by simp; omega) ?_))))))))))
    refine CW.skip (NQ.block (NQ.seq (CW.rg (RL.bx rfl (wrapV_i64 (by omega) (by omega)) ?_))))
    refine RL.p rfl (RL.nil ?_)
    refine NQ.round (g := i) (i + 1) hlt (by show ps.length - (i + 1) < ps.length - i; omega) (.cons rfl (.cons (by rw [joined_succ hlt, List.length_append]; rfl) (.cons rfl (.cons rfl (.cons rfl .nil))))) (fun w h => h)
  ·
    have hin : i = ps.length := by simp at hlt; omega
    subst hin
    rw [List.take_length]
    refine CW.exit (XQ.seq (XQ.seq (XQ.hit (NQ.seq (CW.seq (CW.region (ef := [1]) (bk := []) (RL.p rfl (RL.callq (growB_nil (joined ps).length hb) Tryz.call188 rfl rfl rfl rfl rfl (.inl rfl) ?_))))))))
    rintro _ _ _ ⟨ob, c0, rfl, rfl, rfl⟩
    refine RL.p rfl (RL.nil (NQ.seq (CW.ok [0, 6] rfl (CW.seq (CW.seq (CW.rg (RL.p rfl (RL.lenS Tryz.runUnderlying397 rfl rfl rfl rfl (RL.p rfl (RL.nil (NQ.seq (CW.block ?_))))))))))))
    refine CW.loop (γ := Nat × Option Nat × Nat) (fun g => g.1 ≤ ps.length) (fun g => [(6, slO g.2.1 (joined (ps.take g.1)).length g.2.2), (25, .slice pp ps.length cap), (26, .int .i64 (ps.length : Int)), (27, .int .i64 (g.1 : Int))]) (fun _ => Base)
      (fun g => [own g.2.1 g.2.2 5 1 (joined (ps.take g.1)).length (bytes (joined (ps.take g.1)))]) (fun g => ps.length - g.1) (0, ob, c0) (by simp) (.cons rfl (.cons rfl (.cons rfl (.cons rfl .nil)))) (fun w h => h) ?_
    rintro ⟨i, ob', c'⟩ hi'
    dsimp only at hi' ⊢
    have hle := joined_le ps i
    have hle1 := joined_le ps (i + 1)
    refine CW.seq (CW.rg (RL.p rfl (RL.nil (NQ.seq (CW.seq ?_)))))
    refine CW.cond rfl (fun hlt => ?_) (fun hlt => ?_)
    ·
      have hlt : i < ps.length := by simp at hlt; omega
      cases pp with
      | none => exact absurd (hpp rfl) (by omega)
      | some a =>
      have hv : (ps.map Part.v)[i * 1]? = some (.slice ps[i].p ps[i].m.length ps[i].c) := by rw [Nat.mul_one, List.getElem?_map, List.getElem?_eq_getElem hlt]; rfl
      have hmi : sls ps[i].p 1 ps[i].m.length (bytes ps[i].m) ∈ Base := hpm _ (List.getElem_mem hlt)
      rw [joined_succ hlt, List.length_append] at hle1
      refine CW.skip (NQ.seq (CW.seq (CW.block (CW.seq (CW.rg (RL.idx (j := i) Tryz.runUnderlying397 Tryz.sizeOf22 rfl rfl rfl rfl rfl rfl hlt (RL.load Tryz.isAgg22 rfl rfl rfl rfl (Rd.getS hmem hv) (RL.p rfl (RL.nil (NQ.seq (CW.region (ef := [2]) (bk := [2]) (RL.p rfl (RL.p rfl ?_)))))))))))))
      refine RL.appendA el_22 rfl rfl rfl rfl rfl rfl rfl (by first | exact ⟨(.take (Pick.none _)), rfl⟩ | exact ⟨(.leave (.take (Pick.none _))), rfl⟩ | exact ⟨(.leave (.leave (.take (Pick.none _)))), rfl⟩ | exact ⟨(.leave (.leave (.leave (.take (Pick.none _))))), rfl⟩ | exact ⟨(.leave (.leave (.leave (.leave (.take (Pick.none _)))))), rfl⟩ | exact ⟨(.leave (.leave (.leave (.leave (.leave (.take (Pick.none _))))))), rfl⟩ | exact ⟨(.leave (.leave (.leave (.leave (.leave (.leave (.take (Pick.none _)))))))), rfl⟩ | exact ⟨(.leave (.leave (.leave (.leave (.leave (.leave (.leave (.take (Pick.none _))))))))), rfl⟩ | exact ⟨(.leave (.leave (.leave (.leave (.leave (.leave (.leave (.leave (.take (Pick.none _)))))))))), rfl⟩ | exact ⟨(.leave (.leave (.leave (.leave (.leave (.leave (.leave (.leave (.leave (.take (Pick.none _))))))))))), rfl⟩) (Src.sls hmi) (ones_u8 _) (by first | omega | (simp only [maxLen]; omega)) (by first | omega | (simp only [maxLen]; omega)) ?_
      intro ob2 c2 ho2
      refine RL.p rfl (RL.nil (NQ.block (NQ.seq (CW.ok [6, 25, 26, 27] rfl (CW.rg (RL.bx rfl (wrapV_i64 (by omega) (by omega)) ?_))))))
      refine RL.p rfl (RL.nil ?_)
      refine NQ.round (g := (i, ob', c')) (i + 1, ob2, c2) hlt (by show ps.length - (i + 1) < ps.length - i; omega) (.cons (by rw [joined_succ hlt, List.length_append]; rfl) (.cons rfl (.cons rfl (.cons rfl .nil)))) (fun w h => ?_)
      dsimp only
      rw [joined_succ hlt, List.length_append, bytes_app]
      exact h
    ·
      refine CW.exit (XQ.seq (XQ.seq (XQ.hit (NQ.seq (CW.seq (CW.rg (RL.p rfl (RL.p rfl (RL.nil (NQ.seq (CW.ok [2] rfl (CW.ret ?_))))))))))))
      have hin : i = ps.length := by simp at hlt; omega
      subst hin
      rw [List.take_length]
      exact RQ.post (res1 rfl rfl) (.keep .nil) ⟨ob', c', rfl, rfl, rfl⟩
end Go.Proofs.YthgjgeapfndeeaaGreatDoor
