import Derived.Test.YtbdnebedmdoehaaT11
import Derived.Test.YtbdnebedmdoehaaPE
namespace Go.Proofs.Ytbdnebedmdoehaa
open Go.PK

theorem grow_nil (n : Nat) (hn : n ≤ 1000000) : Spc Try.prog 95 #[.slice none 0 0, .int .i64 (n : Int)] [] []
    (fun v I' H' => ∃ ob cap, v = slO ob 0 cap ∧ I' = [] ∧ H' = [own ob cap 83 4 0 []]) := by
  refine Spc.enter Try.func95 rfl rfl rfl (fun w0 hw0 => ?_)
  refine CW.seq (CW.rg (RL.p rfl (RL.nil (NQ.seq (CW.seq (CW.seq (CW.rg (RL.p rfl (RL.p rfl (RL.nil (NQ.seq (CW.condF rfl ((by simp)) ?_))))))))))))
  refine CW.skip (NQ.seq (CW.seq (CW.seq (CW.rg (RL.p rfl (RL.p rfl (RL.capS Try.runUnderlying79 rfl rfl rfl rfl (RL.p rfl (RL.lenS Try.runUnderlying79 rfl rfl rfl rfl (RL.bx rfl (wrapV_i64 (by omega) (by omega)) ?_))))))))))
  refine RL.bx rfl (wrapV_i64 (by omega) (by omega)) ?_
  refine RL.p rfl (RL.nil (NQ.seq (CW.ok [0, 1, 4] rfl (CW.seq (CW.rg (RL.p rfl (RL.p rfl (RL.nil (NQ.seq ?_)))))))))
  refine CW.cond rfl (fun hp => ?_) (fun hp => ?_)
  ·
    have hp : 0 < n := by simp at hp; omega
    refine CW.region (ef := [5]) (bk := [5]) (RL.p rfl (RL.p rfl (RL.capS Try.runUnderlying79 rfl rfl rfl rfl (RL.slice (lo := 0) (hi := 0) Try.runUnderlying79 Try.sizeOf83 rfl rfl rfl rfl rfl rfl (by omega) (by omega) ?_))))
    refine RL.p rfl (RL.appendMk0 (mm := n) (zs := [.int .i64 0, .int .i64 0, .int .i64 0, .int .i64 0]) el_79 (fun ii z hi hz => by rw [show Try.prog.info? 83 = some Try.t83 by kernel_rfl] at hi; cases hi; cases hz; rfl) rfl Try.runUnderlying3 rfl rfl rfl rfl rfl (by show _ = some (Value.int .i64 ((n : Nat) : Int)); simp [Env.ev, Env.get]) hp (by first | omega | (simp only [maxLen]; omega)) (by first | omega | (simp only [maxLen]; omega)) ?_)
    intro b cap'
    refine RL.p rfl (RL.lenS Try.runUnderlying79 rfl rfl rfl rfl (RL.slice (lo := 0) (hi := 0) Try.runUnderlying79 Try.sizeOf83 rfl rfl rfl rfl rfl rfl (by omega) (by omega) ?_))
    refine RL.cast (d := 25) (v' := .slice (some ⟨b, 0, none⟩) 0 cap') rfl (by simp only [Nat.sub_zero]; congr 1; split <;> simp [add_none]) ?_
    refine RL.p rfl (RL.nil (NQ.seq (CW.ok [0] rfl (CW.seq (CW.rg (RL.p rfl (RL.p rfl (RL.nil (NQ.seq (CW.ret ?_))))))))))
    exact RQ.post (res1 rfl rfl) (.keep .nil) ⟨some b, cap', rfl, rfl, rfl⟩
  ·
    refine CW.skip (NQ.seq (CW.seq (CW.rg (RL.p rfl (RL.p rfl (RL.nil (NQ.seq (CW.ret (RQ.ownNone (e := 83) 4 ?_)))))))))
    exact RQ.post (res1 rfl rfl) (.keep .nil) ⟨none, 0, rfl, rfl, rfl⟩
/-- Entries somewhere. -/
structure EPart where
  p : Option Addr
  c : Nat
  L : List Ent
abbrev EPart.v (x : EPart) : Value := .slice x.p x.L.length x.c
abbrev EPart.i (x : EPart) : It := sls x.p 4 x.L.length (entsV x.L)
def joinE (ps : List EPart) : List Ent := ps.flatMap (·.L)
theorem joinE_succ {ps : List EPart} {i : Nat} (h : i < ps.length) : joinE (ps.take (i + 1)) = joinE (ps.take i) ++ ps[i].L := by
  rw [joinE, joinE, List.take_succ_eq_append_getElem h, List.flatMap_append]; simp
theorem joinE_le (ps : List EPart) (i : Nat) : (joinE (ps.take i)).length ≤ (joinE ps).length := by
  have : joinE ps = joinE (ps.take i) ++ joinE (ps.drop i) := by rw [joinE, joinE, joinE, ← List.flatMap_append, List.take_append_drop]
  rw [this, List.length_append]; omega
/-- Entries of one's own. -/
def OwnE (l : List Ent) : Value → List It → List It → Prop := fun v I' H' => ∃ ob cap, v = slO ob l.length cap ∧ I' = [] ∧ H' = [own ob cap 83 4 l.length (entsV l)]
theorem ents_one (l : List Ent) : ∀ u ∈ entsV l, u.oneCell' = true := fun u hu => by
  obtain ⟨e, -, he⟩ := List.mem_flatMap.1 hu
  simp [Ent.cells] at he
  rcases he with rfl | rfl | rfl | rfl <;> rfl
theorem concat_any (pp : Option Addr) (cap n : Nat) (ps : List EPart) (hn : ps.length = n) (hnb : n ≤ 1000000) (hb : (joinE ps).length ≤ 1000000) :
    Spc Try.prog 62 #[.slice pp n cap] (sls pp 1 n (ps.map EPart.v) :: ps.map EPart.i) [] (OwnE (joinE ps)) := by
  subst hn
  generalize hBase : sls pp 1 ps.length (ps.map EPart.v) :: ps.map EPart.i = Base
  have hmem : sls pp 1 ps.length (ps.map EPart.v) ∈ Base := by rw [← hBase]; exact List.Mem.head _
  have hpm : ∀ x ∈ ps, EPart.i x ∈ Base := fun x hx => by rw [← hBase]; exact List.mem_cons_of_mem _ (List.mem_map_of_mem hx)
  clear hBase
  refine Spc.enter Try.func62 rfl rfl rfl (fun w0 hw0 => ?_)
  refine CW.seq (CW.rg (RL.p rfl (RL.nil (NQ.seq (CW.seq (CW.rg (RL.p rfl (RL.nil (NQ.seq (CW.seq (CW.seq (CW.rg (RL.p rfl ?_)))))))))))))
  refine RL.lenS Try.runUnderlying216 rfl rfl rfl rfl (RL.p rfl (RL.nil (NQ.seq (CW.block ?_))))
  refine CW.fact (p := pp = none → ps.length = 0) (fun w hC e => sls_nil (hC.s.i _ hmem) e) (fun hpp => ?_)
  refine CW.loop (γ := Nat) (fun i => i ≤ ps.length) (fun i => [(0, .slice pp ps.length cap), (3, .int .i64 ((joinE (ps.take i)).length : Int)), (9, .slice pp ps.length cap), (10, .int .i64 (ps.length : Int)), (11, .int .i64 (i : Int))]) (fun _ => Base) (fun _ => []) (fun i => ps.length - i) 0 (by omega)
    (.cons rfl (.cons rfl (.cons rfl (.cons rfl (.cons rfl .nil))))) (fun w h => h) ?_
  intro i hi
  have hle := joinE_le ps i
  have hle1 := joinE_le ps (i + 1)
  refine CW.seq (CW.rg (RL.p rfl (RL.nil (NQ.seq (CW.seq ?_)))))
  refine CW.cond rfl (fun hlt => ?_) (fun hlt => ?_)
  ·
    have hlt : i < ps.length := by simp at hlt; omega
    cases pp with
    | none => exact absurd (hpp rfl) (by omega)
    | some a =>
    have hv : (ps.map EPart.v)[i * 1]? = some (.slice ps[i].p ps[i].L.length ps[i].c) := by rw [Nat.mul_one, List.getElem?_map, List.getElem?_eq_getElem hlt]; rfl
    rw [joinE_succ hlt, List.length_append] at hle1
    refine CW.skip (NQ.seq (CW.seq (CW.block (CW.seq (CW.rg (RL.idx (j := i) Try.runUnderlying216 Try.sizeOf79 rfl rfl rfl rfl rfl rfl hlt (RL.load Try.isAgg79 rfl rfl rfl rfl (Rd.getS hmem hv) (RL.p rfl (RL.nil (NQ.seq (CW.seq (CW.rg (RL.p rfl ?_)))))))))))))
    refine RL.p rfl (RL.lenS Try.runUnderlying79 rfl rfl rfl rfl (RL.bx rfl (wrapV_i64 (by omega) (by omega)) ?_))
    refine RL.p rfl (RL.nil (NQ.seq (CW.ok [0, 3, 9, 10, 11] rfl (CW.seq (CW.rg (RL.p rfl (RL.p rfl (RL.nil (NQ.seq (CW.condF rfl (by simp; omega) ?_))))))))))
    refine CW.skip (NQ.block (NQ.seq (CW.rg (RL.bx rfl (wrapV_i64 (by omega) (by omega)) ?_))))
    refine RL.p rfl (RL.nil ?_)
    refine NQ.round (g := i) (i + 1) hlt (by show ps.length - (i + 1) < ps.length - i; omega) (.cons rfl (.cons (by rw [joinE_succ hlt, List.length_append]; rfl) (.cons rfl (.cons rfl (.cons rfl .nil))))) (fun w h => h)
  ·
    have hin : i = ps.length := by simp at hlt; omega
    subst hin
    rw [List.take_length]
    refine CW.exit (XQ.seq (XQ.seq (XQ.hit (NQ.seq (CW.seq (CW.region (ef := [1]) (bk := []) (RL.p rfl (RL.callq (grow_nil (joinE ps).length hb) Try.call95 rfl rfl rfl rfl rfl (.inl rfl) ?_))))))))
    rintro _ _ _ ⟨ob, c0, rfl, rfl, rfl⟩
    refine RL.p rfl (RL.nil (NQ.seq (CW.ok [0, 6] rfl (CW.seq (CW.seq (CW.rg (RL.p rfl (RL.lenS Try.runUnderlying216 rfl rfl rfl rfl (RL.p rfl (RL.nil (NQ.seq (CW.block ?_))))))))))))
    refine CW.loop (γ := Nat × Option Nat × Nat) (fun g => g.1 ≤ ps.length) (fun g => [(6, slO g.2.1 (joinE (ps.take g.1)).length g.2.2), (25, .slice pp ps.length cap), (26, .int .i64 (ps.length : Int)), (27, .int .i64 (g.1 : Int))]) (fun _ => Base)
      (fun g => [own g.2.1 g.2.2 83 4 (joinE (ps.take g.1)).length (entsV (joinE (ps.take g.1)))]) (fun g => ps.length - g.1) (0, ob, c0) (by simp) (.cons rfl (.cons rfl (.cons rfl (.cons rfl .nil)))) (fun w h => h) ?_
    rintro ⟨i, ob', c'⟩ hi'
    dsimp only at hi' ⊢
    have hle := joinE_le ps i
    have hle1 := joinE_le ps (i + 1)
    refine CW.seq (CW.rg (RL.p rfl (RL.nil (NQ.seq (CW.seq ?_)))))
    refine CW.cond rfl (fun hlt => ?_) (fun hlt => ?_)
    ·
      have hlt : i < ps.length := by simp at hlt; omega
      cases pp with
      | none => exact absurd (hpp rfl) (by omega)
      | some a =>
      have hv : (ps.map EPart.v)[i * 1]? = some (.slice ps[i].p ps[i].L.length ps[i].c) := by rw [Nat.mul_one, List.getElem?_map, List.getElem?_eq_getElem hlt]; rfl
      have hmi : sls ps[i].p 4 ps[i].L.length (entsV ps[i].L) ∈ Base := hpm _ (List.getElem_mem hlt)
      rw [joinE_succ hlt, List.length_append] at hle1
      refine CW.skip (NQ.seq (CW.seq (CW.block (CW.seq (CW.rg (RL.idx (j := i) Try.runUnderlying216 Try.sizeOf79 rfl rfl rfl rfl rfl rfl hlt (RL.load Try.isAgg79 rfl rfl rfl rfl (Rd.getS hmem hv) (RL.p rfl (RL.nil (NQ.seq (CW.region (ef := [2]) (bk := [2]) (RL.p rfl (RL.p rfl ?_)))))))))))))
      refine RL.appendA el_79 rfl rfl rfl rfl rfl rfl rfl (by first | exact ⟨(.take (Pick.none _)), rfl⟩ | exact ⟨(.leave (.take (Pick.none _))), rfl⟩ | exact ⟨(.leave (.leave (.take (Pick.none _)))), rfl⟩ | exact ⟨(.leave (.leave (.leave (.take (Pick.none _))))), rfl⟩ | exact ⟨(.leave (.leave (.leave (.leave (.take (Pick.none _)))))), rfl⟩ | exact ⟨(.leave (.leave (.leave (.leave (.leave (.take (Pick.none _))))))), rfl⟩ | exact ⟨(.leave (.leave (.leave (.leave (.leave (.leave (.take (Pick.none _)))))))), rfl⟩ | exact ⟨(.leave (.leave (.leave (.leave (.leave (.leave (.leave (.take (Pick.none _))))))))), rfl⟩ | exact ⟨(.leave (.leave (.leave (.leave (.leave (.leave (.leave (.leave (.take (Pick.none _)))))))))), rfl⟩ | exact ⟨(.leave (.leave (.leave (.leave (.leave (.leave (.leave (.leave (.leave (.take (Pick.none _))))))))))), rfl⟩) (Src.sls hmi) (ents_one _) (by first | omega | (simp only [maxLen]; omega)) (by first | omega | (simp only [maxLen]; omega)) ?_
      intro ob2 c2 ho2
      refine RL.p rfl (RL.nil (NQ.block (NQ.seq (CW.ok [6, 25, 26, 27] rfl (CW.rg (RL.bx rfl (wrapV_i64 (by omega) (by omega)) ?_))))))
      refine RL.p rfl (RL.nil ?_)
      refine NQ.round (g := (i, ob', c')) (i + 1, ob2, c2) hlt (by show ps.length - (i + 1) < ps.length - i; omega) (.cons (by rw [joinE_succ hlt, List.length_append]; rfl) (.cons rfl (.cons rfl (.cons rfl .nil)))) (fun w h => ?_)
      dsimp only
      rw [joinE_succ hlt, List.length_append, entsV_append]
      exact h
    ·
      refine CW.exit (XQ.seq (XQ.seq (XQ.hit (NQ.seq (CW.seq (CW.rg (RL.p rfl (RL.p rfl (RL.nil (NQ.seq (CW.ok [2] rfl (CW.ret ?_))))))))))))
      have hin : i = ps.length := by simp at hlt; omega
      subst hin
      rw [List.take_length]
      exact RQ.post (res1 rfl rfl) (.keep .nil) ⟨ob', c', rfl, rfl, rfl⟩
end Go.Proofs.Ytbdnebedmdoehaa

namespace Go.Proofs.Ytbdnebedmdoehaa
open Go.PK

/-- Reports that are joined. -/
def joinC (p q : Rep) : Prop := holdsE p = 0 ∧ holdsE q = 0 ∧ p.to = q.fr ∧ IntKind.i64.wrap (q.a - p.L.length) = p.a
def joinP (p q : Rep) : Rep := ⟨p.fr, q.to, p.a, p.L ++ q.L⟩
open Classical in
noncomputable def joinV (p q : Rep) : Rep := if joinC p q then joinP p q else rep0
open Classical in
noncomputable def joinE' (p q : Rep) : Int := if joinC p q then 0 else 360
theorem join_yes {p q : Rep} (h : joinC p q) : joinV p q = joinP p q ∧ joinE' p q = 0 := ⟨if_pos h, if_pos h⟩
theorem join_no {p q : Rep} (h : ¬ joinC p q) : joinV p q = rep0 ∧ joinE' p q = 360 := ⟨if_neg h, if_neg h⟩
theorem RdI.told {I : List It} {b off : Nat} {cs : List Value} {T : TypeId} {v : Value} (hm : cel b cs T ∈ I) (hn : cs[off]? = some v) : RdI I ⟨b, off, none⟩ v := ⟨fun _ => Rd.getI hm hn⟩
theorem lenD {l : List B8} (h : l.length = 32) : (bytes l).length = 32 := by rw [List.length_map, h]
theorem join_any (p q : Rep) (oa ob : Option Nat) (ca cb na nb : Nat) (hp1 : p.fr.length = 32) (hp2 : p.to.length = 32) (hq1 : q.fr.length = 32) (hq2 : q.to.length = 32) (hna : p.L.length = na) (hnb : q.L.length = nb) (hnb1 : na ≤ 1000) (hnb2 : nb ≤ 1000) :
    Spc Try.prog 30 #[.agg (p.cells (slO oa na ca)).toArray, .agg (q.cells (slO ob nb cb)).toArray] [sls (oa.map fun b => ⟨b, 0, none⟩) 4 na (entsV p.L), sls (ob.map fun b => ⟨b, 0, none⟩) 4 nb (entsV q.L)] [] (RepR 83 (joinV p q) (joinE' p q)) := by
  subst hna; subst hnb
  refine Spc.enter Try.func30 rfl rfl rfl (fun w0 hw0 => ?_)
  refine CW.seq (CW.region (ef := [0, 1, 2]) (bk := []) (RL.box rfl rfl rfl rfl rfl rfl ?_))
  intro b1
  refine RL.box rfl rfl rfl rfl rfl rfl ?_
  intro b2
  refine RL.alloc Try.zeroValue81 rfl rfl rfl rfl rfl ?_
  intro b3
  refine RL.p rfl (RL.nil (NQ.seq (CW.seq (CW.seq (CW.freezeP (A := [_, _]) (B := [_]) (.leave (.take (.take .nil))) rfl ?_)))))
  simp only [List.cons_append, List.nil_append]
  generalize hJ : ([cel b2 (q.cells (slO ob q.L.length cb)) 81, cel b1 (p.cells (slO oa p.L.length ca)) 81, sls (oa.map fun b => ⟨b, 0, none⟩) 4 p.L.length (entsV p.L), sls (ob.map fun b => ⟨b, 0, none⟩) 4 q.L.length (entsV q.L)] : List It) = J
  have m1 : cel b1 (p.cells (slO oa p.L.length ca)) 81 ∈ J := by rw [← hJ]; exact (by repeat (first | exact List.Mem.head _ | apply List.Mem.tail))
  have m2 : cel b2 (q.cells (slO ob q.L.length cb)) 81 ∈ J := by rw [← hJ]; exact (by repeat (first | exact List.Mem.head _ | apply List.Mem.tail))
  have m3 : sls (oa.map fun b => ⟨b, 0, none⟩) 4 p.L.length (entsV p.L) ∈ J := by rw [← hJ]; exact (by repeat (first | exact List.Mem.head _ | apply List.Mem.tail))
  have m4 : sls (ob.map fun b => ⟨b, 0, none⟩) 4 q.L.length (entsV q.L) ∈ J := by rw [← hJ]; exact (by repeat (first | exact List.Mem.head _ | apply List.Mem.tail))
  clear hJ
  have w1 : RdsN J ⟨b1, 0, none⟩ 66 (p.cells (slO oa p.L.length ca)) := RdsN.told m1 (fun j u h => by rw [Nat.zero_add]; exact h) (rep_len hp1 hp2)
  have w2 : RdsN J ⟨b2, 0, none⟩ 66 (q.cells (slO ob q.L.length cb)) := RdsN.told m2 (fun j u h => by rw [Nat.zero_add]; exact h) (rep_len hq1 hq2)
  have f1 : RdsN J ⟨b1, 0 + 0, none⟩ 32 (bytes p.fr) := RdsN.told m1 (rep_fr hp1) (lenD hp1)
  have f2 : RdsN J ⟨b2, 0 + 0, none⟩ 32 (bytes q.fr) := RdsN.told m2 (rep_fr hq1) (lenD hq1)
  have f3 : RdsN J ⟨b1, 0 + 32, none⟩ 32 (bytes p.to) := RdsN.told m1 (rep_to hp1) (lenD hp2)
  have f4 : RdsN J ⟨b2, 0 + 32, none⟩ 32 (bytes q.to) := RdsN.told m2 (rep_to hq1) (lenD hq2)
  have f5 : RdI J ⟨b1, 0 + 64, none⟩ (.int .i64 p.a) := RdI.told m1 (rep_a hp1 hp2)
  have f6 : RdI J ⟨b2, 0 + 64, none⟩ (.int .i64 q.a) := RdI.told m2 (rep_a hq1 hq2)
  have f7 : RdI J ⟨b1, 0 + 65, none⟩ (slO oa p.L.length ca) := RdI.told m1 (rep_sl hp1 hp2)
  have f8 : RdI J ⟨b2, 0 + 65, none⟩ (slO ob q.L.length cb) := RdI.told m2 (rep_sl hq1 hq2)
  have l1 : (p.cells (slO oa p.L.length ca)).length = 66 := rep_len hp1 hp2
  have l2 : (q.cells (slO ob q.L.length cb)).length = 66 := rep_len hq1 hq2
  refine CW.rg (RL.loadSq Try.isAgg81 Try.sizeOf81 rfl rfl rfl rfl ?_)
  refine RL.callv (tholds_any p oa ca p.L.length hp1 hp2 rfl (by omega)) Try.call36 rfl rfl rfl rfl (.inI m3 .nil) ?_
  refine RL.p rfl (RL.p rfl ?_)
  apply RL.orB (d := 9) (dp := 13) (l' := (Sq.of [8, 9, 10, 11, 12, 13, 14, 15, 16, 17, 18, 19, 20, 21, 22, 23, 24, 25])) rfl (sK [2, 3, 4, 5] rfl)
  ·
    intro hb4 K4
    refine RL.loadSq Try.isAgg81 Try.sizeOf81 rfl rfl rfl rfl ?_
    refine RL.callv (tholds_any q ob cb q.L.length hq1 hq2 rfl (by omega)) Try.call36 rfl rfl rfl rfl (.inI m4 .nil) ?_
    refine RL.p rfl (RL.p rfl ?_)
    exact K4 _ (.cons rfl (sK [2, 3, 4, 5] rfl))
  ·
    intro hb4 K4
    refine RL.p rfl (RL.p rfl (RL.p rfl (RL.p rfl ?_)))
    exact K4 _ (.cons rfl (sK [2, 3, 4, 5] rfl))
  refine RL.p rfl ?_
  apply RL.orB (d := 14) (dp := 20) (l' := (Sq.of [15, 16, 17, 18, 19, 20, 21, 22, 23, 24, 25])) rfl (sK [2, 3, 4, 5] rfl)
  ·
    intro hb9 K9
    refine RL.fieldAddr fa_81_1 rfl rfl rfl rfl (RL.loadSq Try.isAgg78 Try.sizeOf78 rfl rfl rfl rfl ?_)
    refine RL.fieldAddr fa_81_0 rfl rfl rfl rfl (RL.loadSq Try.isAgg78 Try.sizeOf78 rfl rfl rfl rfl ?_)
    refine RL.cmp rfl rfl rfl rfl rfl (dig_ne _ _ (by first | rfl | assumption | (simp only [List.length_map]; assumption) | (simp only [List.length_map, List.length_replicate]; done) | (simp; done)) (by first | rfl | assumption | (simp only [List.length_map]; assumption) | (simp only [List.length_map, List.length_replicate]; done) | (simp; done)) _ _) ?_
    refine RL.p rfl ?_
    exact K9 _ (.cons rfl (sK [2, 3, 4, 5] rfl))
  ·
    intro hb9 K9
    refine RL.p rfl (RL.p rfl (RL.p rfl (RL.p rfl (RL.p rfl (RL.p rfl ?_)))))
    exact K9 _ (.cons rfl (sK [2, 3, 4, 5] rfl))
  refine RL.p rfl ?_
  apply RL.orB (d := 21) (dp := 31) (l' := (Sq.of [])) rfl (sK [2, 3, 4, 5] rfl)
  ·
    intro hb16 K16
    refine RL.fieldAddr fa_81_2 rfl rfl rfl rfl (RL.loadq Try.isAgg3 rfl rfl rfl rfl ?_)
    refine RL.fieldAddr fa_81_3 rfl rfl rfl rfl (RL.loadq Try.isAgg79 rfl rfl rfl rfl ?_)
    refine RL.lenS Try.runUnderlying79 rfl rfl rfl rfl (RL.p rfl (RL.fieldAddr fa_81_2 rfl rfl rfl rfl (RL.loadq Try.isAgg3 rfl rfl rfl rfl ?_)))
    refine RL.p rfl (RL.p rfl ?_)
    exact K16 _ (.cons rfl (sK [2, 3, 4, 5] rfl))
  ·
    intro hb16 K16
    refine RL.p rfl (RL.p rfl (RL.p rfl (RL.p rfl (RL.p rfl (RL.p rfl (RL.p rfl (RL.p rfl (RL.p rfl (RL.p rfl ?_)))))))))
    exact K16 _ (.cons rfl (sK [2, 3, 4, 5] rfl))
  refine RL.nil (NQ.seq ?_)
  refine CW.cond rfl (fun hc => ?_) (fun hc => ?_)
  ·
    refine CW.seq (CW.region (ef := [1]) (bk := [1]) (RL.buildS _ Try.zeroValue81 pl_81 rfl rfl rfl rfl rfl (RL.storeWq Try.sizeOf81 rfl rfl rfl rfl rfl rfl rfl ?_)))
    refine RL.p rfl (RL.nil (NQ.seq (CW.ret (RQ.seq ?_))))
    have hno : ¬ joinC p q := by
      rintro ⟨e1, e2, e3, e4⟩
      simp [e1, e2, e3, e4] at hc
    obtain ⟨e1, e2⟩ := join_no hno
    rw [e1, e2]
    refine RQ.ownNone (e := 83) 4 ?_
    exact RQ.post (resWT rfl rfl rfl Try.isAgg81 Try.sizeOf81 (by repeat (first | exact List.Mem.head _ | apply List.Mem.tail)) rfl) (.keep (Split.none _)) ⟨none, 0, rfl, rfl, rfl⟩
  ·
    have hyes : joinC p q := by
      simp at hc
      refine ⟨hc.1.1.1, hc.1.1.2, hc.1.2, ?_⟩
      exact hc.2
    obtain ⟨e1, e2⟩ := join_yes hyes
    rw [e1, e2]
    refine CW.skip (NQ.seq (CW.seq (CW.regionD (Sq.of [0, 1, 2, 3, 4, 5, 6, 7, 8, 9, 10, 11, 12, 13, 14]) [10, 11, 13] [13] [0, 1, 2, 3, 4, 5, 6, 7, 8, 9, 12, 14] mixed (by kernel_rfl) ?_)))
    refine RL.fieldAddr fa_81_0 rfl rfl rfl rfl (RL.loadSTq Try.isAgg78 Try.sizeOf78 rfl rfl rfl rfl ?_)
    refine RL.fieldAddr fa_81_1 rfl rfl rfl rfl (RL.loadSTq Try.isAgg78 Try.sizeOf78 rfl rfl rfl rfl ?_)
    refine RL.fieldAddr fa_81_2 rfl rfl rfl rfl (RL.loadTq Try.isAgg3 rfl rfl rfl rfl ?_)
    refine RL.fieldAddr fa_81_3 rfl rfl rfl rfl (RL.loadTq Try.isAgg79 rfl rfl rfl rfl ?_)
    refine RL.fieldAddr fa_81_3 rfl rfl rfl rfl (RL.loadTq Try.isAgg79 rfl rfl rfl rfl ?_)
    refine RL.buildSlice [_, _] Try.runUnderlying216 Try.sizeOf79 Try.zeroValue79 rfl rfl (by decide) (by decide) rfl rfl rfl rfl rfl rfl ?_
    intro b4
    refine RL.call (concat_any (some ⟨b4, 0, none⟩) 2 2 [⟨oa.map fun b => ⟨b, 0, none⟩, ca, p.L⟩, ⟨ob.map fun b => ⟨b, 0, none⟩, cb, q.L⟩] rfl (by decide) (by simp [joinE]; omega)) Try.call62 rfl rfl rfl rfl rfl (by repeat (first | exact Pick.nil | apply Pick.take | apply Pick.leave)) (Lend.all (by repeat (first | exact List.Mem.head _ | apply List.Mem.tail)) rfl (.inI m3 (.inI m4 .nil))) (.inl rfl) ?_
    refine ?_
    rintro _ _ _ ⟨ob2, c2, rfl, rfl, rfl⟩
    refine RL.buildS (Rep.cells ⟨p.fr, q.to, p.a, []⟩ (slO ob2 (joinE [⟨oa.map fun b => ⟨b, 0, none⟩, ca, p.L⟩, ⟨ob.map fun b => ⟨b, 0, none⟩, cb, q.L⟩]).length c2)) Try.zeroValue81 pl_81 rfl rfl rfl rfl (fill_rep4 hp1 hq2 rfl rfl) ?_
    refine RL.storeW Try.sizeOf81 rfl rfl rfl rfl rfl rfl rfl (ones_rep _ rfl) (by repeat (first | exact Upd.here | apply Upd.there)) (rep_len hp1 hq2) rfl ?_
    refine RL.p rfl (RL.nil (NQ.seq (CW.ok [4, 5] rfl (CW.ret ?_))))
    have hL : joinE [⟨oa.map fun b => ⟨b, 0, none⟩, ca, p.L⟩, ⟨ob.map fun b => ⟨b, 0, none⟩, cb, q.L⟩] = (joinP p q).L := by simp [joinE, joinP]
    rw [hL]
    exact RQ.post (resWT rfl rfl rfl Try.isAgg81 Try.sizeOf81 (by repeat (first | exact List.Mem.head _ | apply List.Mem.tail)) (rep_len (p := ⟨p.fr, q.to, p.a, []⟩) hp1 hq2)) (.keep (.drop (.drop .nil))) ⟨ob2, c2, rfl, rfl, rfl⟩
end Go.Proofs.Ytbdnebedmdoehaa

namespace Go.Proofs.Ytbdnebedmdoehaa
open Go.PK

/-! ### The reference's Holds -/
theorem rholds_any (p : Rep) (oa : Option Nat) (ca n : Nat) (h1 : p.fr.length = 32) (h2 : p.to.length = 32) (hn : p.L.length = n) (hl : n ≤ 1000000) :
    Spc Try.prog 37 #[.agg (p.cells (slO oa n ca)).toArray] [sls (oa.map fun b => ⟨b, 0, none⟩) 4 n (entsV p.L)] [] (Is (.int .i64 (holdsE p))) := by
  subst hn
  refine Spc.enter Try.func37 rfl rfl rfl (fun w0 hw0 => ?_)
  refine CW.seq (CW.region (ef := [0]) (bk := []) (RL.box rfl rfl rfl rfl rfl rfl ?_))
  intro b1
  refine RL.p rfl (RL.nil (NQ.seq (CW.seq (CW.seq (CW.freezeAll rfl ?_)))))
  simp only [List.cons_append, List.nil_append]
  generalize hJ : ([cel b1 (p.cells (slO oa p.L.length ca)) 93, sls (oa.map fun b => ⟨b, 0, none⟩) 4 p.L.length (entsV p.L)] : List It) = J
  have m1 : cel b1 (p.cells (slO oa p.L.length ca)) 93 ∈ J := by rw [← hJ]; exact (by repeat (first | exact List.Mem.head _ | apply List.Mem.tail))
  have m2 : sls (oa.map fun b => ⟨b, 0, none⟩) 4 p.L.length (entsV p.L) ∈ J := by rw [← hJ]; exact (by repeat (first | exact List.Mem.head _ | apply List.Mem.tail))
  clear hJ
  have f1 : RdI J ⟨b1, 0 + 64, none⟩ (.int .i64 p.a) := ⟨fun _ => Rd.getI m1 (rep_a h1 h2)⟩
  have f2 : RdI J ⟨b1, 0 + 65, none⟩ (slO oa p.L.length ca) := ⟨fun _ => Rd.getI m1 (rep_sl h1 h2)⟩
  have l1 : (bytes p.fr).length = 32 := by rw [List.length_map, h1]
  have l2 : (bytes p.to).length = 32 := by rw [List.length_map, h2]
  have f3 : RdsN J ⟨b1, 0 + 0, none⟩ 32 (bytes p.fr) := RdsN.told m1 (rep_fr h1) l1
  have f4 : RdsN J ⟨b1, 0 + 32, none⟩ 32 (bytes p.to) := RdsN.told m1 (rep_to h1) l2
  refine CW.rg (RL.fieldAddr fa_93_2 rfl rfl rfl rfl (RL.loadq Try.isAgg3 rfl rfl rfl rfl ?_))
  refine RL.p rfl (RL.nil (NQ.seq ?_))
  refine CW.cond rfl (fun ha => ?_) (fun ha => ?_)
  ·
    refine CW.seq (CW.rg (RL.p rfl (RL.nil (NQ.seq (CW.ret (RQ.seq ?_))))))
    exact RQ.post (res1 rfl rfl) (Split.none _) ⟨by rw [holdsE, if_neg (by simp at ha; omega)], rfl, rfl⟩
  ·
    refine CW.skip (NQ.seq (CW.seq (CW.region (ef := [2, 3]) (bk := [3]) (RL.fieldAddr fa_93_0 rfl rfl rfl rfl (RL.loadSq Try.isAgg78 Try.sizeOf78 rfl rfl rfl rfl ?_)))))
    refine RL.alloc (cs := List.replicate 32 (U8 0#8)) Try.zeroValue78 rfl rfl rfl rfl rfl ?_
    intro b2
    refine RL.storeW Try.sizeOf78 rfl rfl rfl rfl rfl rfl rfl (ones_map one8 _) (by repeat (first | exact Upd.here | apply Upd.there)) l1 rfl ?_
    refine RL.nil (NQ.seq (CW.ok [1, 3] rfl (CW.seq (CW.seq (CW.rg (RL.p rfl (RL.nil (NQ.seq (CW.block ?_)))))))))
    have ha : 0 ≤ p.a := by simp at ha; omega
    refine CW.loop (γ := Nat × List B8) (fun g => g.1 ≤ p.L.length ∧ g.2.length = 32 ∧ leadsD p.fr p.L = leadsD g.2 (p.L.drop g.1)) (fun g => [(1, .pointer (some ⟨b1, 0, none⟩)), (3, .pointer (some ⟨b2, 0, none⟩)), (4, .int .i64 (g.1 : Int))])
      (fun _ => J) (fun g => [cel b2 (bytes g.2) 78]) (fun g => p.L.length - g.1) (0, p.fr) ⟨by simp, h1, by simp⟩ (.cons rfl (.cons rfl (.cons rfl .nil))) (fun w h => h.rea (fun _ h => h) (by repeat (first | exact Rea.nil | (apply Rea.cons; (solve | (repeat (first | exact Del.here | apply Del.there))))))) ?_
    rintro ⟨i, h⟩ ⟨hi, hh, he⟩
    dsimp only at hi hh he ⊢
    refine CW.fact (p := oa = none → p.L.length = 0) (fun w hC e => sls_nil (hC.s.i _ m2) (by rw [e]; rfl)) (fun hpa => ?_)
    have lh : (bytes h).length = 32 := by rw [List.length_map, hh]
    refine CW.seq (CW.seq (CW.rg (RL.p rfl (RL.fieldAddr fa_93_3 rfl rfl rfl rfl (RL.loadq Try.isAgg91 rfl rfl rfl rfl ?_)))))
    refine RL.lenS Try.runUnderlying91 rfl rfl rfl rfl (RL.p rfl (RL.nil (NQ.seq ?_)))
    refine CW.cond rfl (fun hlt => ?_) (fun hlt => ?_)
    ·
      have hlt : i < p.L.length := by simp at hlt; omega
      cases oa with
      | none => exact absurd (hpa rfl) (by omega)
      | some ba =>
      have hx := List.getElem?_eq_getElem hlt
      have hd : p.L.drop i = p.L[i] :: p.L.drop (i + 1) := List.drop_eq_getElem_cons hlt
      generalize p.L[i] = x at hx hd
      rw [hd, leadsD] at he
      have hnx := rnext_any h hh x
      cases hxo : x.ok with
      | false =>
        rw [next_no hxo] at hnx
        rw [if_neg (by simp [hxo])] at he
        refine CW.skip (NQ.seq (CW.seq (CW.block (CW.seq (CW.regionD (Sq.of [0, 1, 2, 3, 4, 5, 6, 7, 8, 9, 10, 11, 12]) [10, 11] [11] [1, 3, 4, 7, 8, 9, 12] mixed (by kernel_rfl) ?_)))))
        refine RL.loadW Try.isAgg78 Try.sizeOf78 rfl rfl rfl rfl (by repeat (first | exact List.Mem.head _ | apply List.Mem.tail)) lh ?_
        refine RL.fieldAddr fa_93_3 rfl rfl rfl rfl (RL.loadq Try.isAgg91 rfl rfl rfl rfl ?_)
        refine RL.p rfl (RL.idxAt (j := i) Try.runUnderlying91 Try.sizeOf87 rfl rfl rfl rfl rfl rfl (hlt) (RL.loadN (vs := x.cells) Try.isAgg87 Try.sizeOf87 rfl rfl rfl rfl (ent_rds m2 hx) (RL.callvq (hnx) Try.call28 rfl rfl rfl rfl ?_)))
        refine RL.p rfl (RL.p rfl (RL.p rfl (RL.alloc (cs := List.replicate 32 (U8 0#8)) Try.zeroValue78 rfl rfl rfl rfl rfl ?_)))
        intro b3
        refine RL.storeW Try.sizeOf78 rfl rfl rfl rfl rfl rfl rfl (ones_map one8 _) (by repeat (first | exact Upd.here | apply Upd.there)) rfl rfl ?_
        refine RL.p rfl (RL.nil (NQ.seq (CW.ok [1, 3, 4, 5, 6] rfl (CW.seq (CW.seq (CW.rg (RL.p rfl (RL.p rfl (RL.nil (NQ.seq (CW.condT rfl (rfl) (CW.seq (CW.rg ?_)))))))))))))
        refine RL.p rfl (RL.nil (NQ.seq (CW.ret (RQ.seq (RQ.block (RQ.seq (RQ.seq (RQ.block (RQ.seq ?_)))))))))
        exact RQ.post (res1 rfl rfl) (Split.none _) ⟨by rw [holdsE, he, if_neg (by simp)], rfl, rfl⟩
      | true =>
        rw [next_yes hxo] at hnx
        rw [if_pos hxo] at he
        have hn := nextD_length h x
        have ln : (bytes (nextD h x)).length = 32 := by rw [List.length_map, hn]
        refine CW.skip (NQ.seq (CW.seq (CW.block (CW.seq (CW.regionD (Sq.of [0, 1, 2, 3, 4, 5, 6, 7, 8, 9, 10, 11, 12]) [10, 11] [11] [1, 3, 4, 7, 8, 9, 12] mixed (by kernel_rfl) ?_)))))
        refine RL.loadW Try.isAgg78 Try.sizeOf78 rfl rfl rfl rfl (by repeat (first | exact List.Mem.head _ | apply List.Mem.tail)) lh ?_
        refine RL.fieldAddr fa_93_3 rfl rfl rfl rfl (RL.loadq Try.isAgg91 rfl rfl rfl rfl ?_)
        refine RL.p rfl (RL.idxAt (j := i) Try.runUnderlying91 Try.sizeOf87 rfl rfl rfl rfl rfl rfl (hlt) (RL.loadN (vs := x.cells) Try.isAgg87 Try.sizeOf87 rfl rfl rfl rfl (ent_rds m2 hx) (RL.callvq (hnx) Try.call28 rfl rfl rfl rfl ?_)))
        refine RL.p rfl (RL.p rfl (RL.p rfl (RL.alloc (cs := List.replicate 32 (U8 0#8)) Try.zeroValue78 rfl rfl rfl rfl rfl ?_)))
        intro b3
        refine RL.storeW Try.sizeOf78 rfl rfl rfl rfl rfl rfl rfl (ones_map one8 _) (by repeat (first | exact Upd.here | apply Upd.there)) ln rfl ?_
        refine RL.p rfl (RL.nil (NQ.seq (CW.ok [1, 3, 4, 5, 6] rfl (CW.seq (CW.seq (CW.rg (RL.p rfl (RL.p rfl (RL.nil (NQ.seq (CW.condF rfl (rfl) (CW.skip (NQ.seq ?_)))))))))))))
        refine CW.region (ef := [1]) (bk := [1]) (RL.loadW Try.isAgg78 Try.sizeOf78 rfl rfl rfl rfl (by repeat (first | exact List.Mem.head _ | apply List.Mem.tail)) ln ?_)
        refine RL.storeW Try.sizeOf78 rfl rfl rfl rfl rfl rfl rfl (ones_map one8 _) (by repeat (first | exact Upd.here | apply Upd.there)) ln lh ?_
        refine RL.nil (NQ.block (NQ.seq (CW.rg (RL.p rfl (RL.bx rfl (wrapV_i64 (by omega) (by omega)) ?_)))))
        refine RL.p rfl (RL.nil ?_)
        refine NQ.round (g := (i, h)) (i + 1, nextD h x) ⟨hlt, hn, he⟩ (by show p.L.length - (i + 1) < p.L.length - i; omega) (.cons rfl (.cons rfl (.cons rfl .nil))) (fun w h => h.rea (fun _ h => by simpa using h) (by repeat (first | exact Rea.nil | (apply Rea.cons; (solve | (repeat (first | exact Del.here | apply Del.there)))))))
    ·
      have hin : i = p.L.length := by simp at hlt; omega
      subst hin
      rw [List.drop_length, leadsD] at he
      refine CW.exit (XQ.seq (XQ.seq (XQ.hit (NQ.seq (CW.ok [1, 3] rfl (CW.seq (CW.seq (CW.rg (RL.loadW Try.isAgg78 Try.sizeOf78 rfl rfl rfl rfl (by repeat (first | exact List.Mem.head _ | apply List.Mem.tail)) lh ?_)))))))))
      refine RL.fieldAddr fa_93_1 rfl rfl rfl rfl (RL.loadSq Try.isAgg78 Try.sizeOf78 rfl rfl rfl rfl ?_)
      refine RL.cmp rfl rfl rfl rfl rfl (dig_ne h p.to hh h2 _ _) (RL.nil (NQ.seq ?_))
      refine CW.cond rfl (fun hne => ?_) (fun hne => ?_)
      ·
        refine CW.seq (CW.rg (RL.p rfl (RL.nil (NQ.seq (CW.ok [2] rfl (CW.ret (RQ.seq ?_)))))))
        have hne : h ≠ p.to := by simpa using hne
        exact RQ.post (res1 rfl rfl) (Split.none _) ⟨by rw [holdsE, he, if_neg (fun e => hne (Option.some.inj e.1))], rfl, rfl⟩
      ·
        refine CW.skip (NQ.seq (CW.ok [] rfl (CW.seq (CW.rg (RL.p rfl (RL.nil (NQ.seq (CW.ret ?_))))))))
        have hne : h = p.to := by simpa using hne
        exact RQ.post (res1 rfl rfl) (Split.none _) ⟨by rw [holdsE, he, hne, if_pos ⟨rfl, ha⟩], rfl, rfl⟩
end Go.Proofs.Ytbdnebedmdoehaa

namespace Go.Proofs.Ytbdnebedmdoehaa
open Go.PK
theorem ents_ones (l : List Ent) : ∀ u ∈ entsV l, u.oneCell' = true := fun u hu => by
  obtain ⟨e, -, he⟩ := List.mem_flatMap.1 hu
  simp [Ent.cells] at he
  rcases he with rfl | rfl | rfl | rfl <;> rfl
theorem rjoin_any (p q : Rep) (oa ob : Option Nat) (ca cb na nb : Nat) (hp1 : p.fr.length = 32) (hp2 : p.to.length = 32) (hq1 : q.fr.length = 32) (hq2 : q.to.length = 32) (hna : p.L.length = na) (hnb : q.L.length = nb) (hnb1 : na ≤ 1000) (hnb2 : nb ≤ 1000) :
    Spc Try.prog 31 #[.agg (p.cells (slO oa na ca)).toArray, .agg (q.cells (slO ob nb cb)).toArray] [sls (oa.map fun b => ⟨b, 0, none⟩) 4 na (entsV p.L), sls (ob.map fun b => ⟨b, 0, none⟩) 4 nb (entsV q.L)] [] (RepR 87 (joinV p q) (joinE' p q)) := by
  subst hna; subst hnb
  refine Spc.enter Try.func31 rfl rfl rfl (fun w0 hw0 => ?_)
  refine CW.seq (CW.region (ef := [0, 1, 2]) (bk := []) (RL.box rfl rfl rfl rfl rfl rfl ?_))
  intro b1
  refine RL.box rfl rfl rfl rfl rfl rfl ?_
  intro b2
  refine RL.alloc Try.zeroValue93 rfl rfl rfl rfl rfl ?_
  intro b3
  refine RL.p rfl (RL.nil (NQ.seq (CW.seq (CW.seq (CW.freezeP (A := [_, _]) (B := [_]) (.leave (.take (.take .nil))) rfl ?_)))))
  simp only [List.cons_append, List.nil_append]
  generalize hJ : ([cel b2 (q.cells (slO ob q.L.length cb)) 93, cel b1 (p.cells (slO oa p.L.length ca)) 93, sls (oa.map fun b => ⟨b, 0, none⟩) 4 p.L.length (entsV p.L), sls (ob.map fun b => ⟨b, 0, none⟩) 4 q.L.length (entsV q.L)] : List It) = J
  have m1 : cel b1 (p.cells (slO oa p.L.length ca)) 93 ∈ J := by rw [← hJ]; exact (by repeat (first | exact List.Mem.head _ | apply List.Mem.tail))
  have m2 : cel b2 (q.cells (slO ob q.L.length cb)) 93 ∈ J := by rw [← hJ]; exact (by repeat (first | exact List.Mem.head _ | apply List.Mem.tail))
  have m3 : sls (oa.map fun b => ⟨b, 0, none⟩) 4 p.L.length (entsV p.L) ∈ J := by rw [← hJ]; exact (by repeat (first | exact List.Mem.head _ | apply List.Mem.tail))
  have m4 : sls (ob.map fun b => ⟨b, 0, none⟩) 4 q.L.length (entsV q.L) ∈ J := by rw [← hJ]; exact (by repeat (first | exact List.Mem.head _ | apply List.Mem.tail))
  clear hJ
  have w1 : RdsN J ⟨b1, 0, none⟩ 66 (p.cells (slO oa p.L.length ca)) := RdsN.told m1 (fun j u h => by rw [Nat.zero_add]; exact h) (rep_len hp1 hp2)
  have w2 : RdsN J ⟨b2, 0, none⟩ 66 (q.cells (slO ob q.L.length cb)) := RdsN.told m2 (fun j u h => by rw [Nat.zero_add]; exact h) (rep_len hq1 hq2)
  have f1 : RdsN J ⟨b1, 0 + 0, none⟩ 32 (bytes p.fr) := RdsN.told m1 (rep_fr hp1) (lenD hp1)
  have f2 : RdsN J ⟨b2, 0 + 0, none⟩ 32 (bytes q.fr) := RdsN.told m2 (rep_fr hq1) (lenD hq1)
  have f3 : RdsN J ⟨b1, 0 + 32, none⟩ 32 (bytes p.to) := RdsN.told m1 (rep_to hp1) (lenD hp2)
  have f4 : RdsN J ⟨b2, 0 + 32, none⟩ 32 (bytes q.to) := RdsN.told m2 (rep_to hq1) (lenD hq2)
  have f5 : RdI J ⟨b1, 0 + 64, none⟩ (.int .i64 p.a) := RdI.told m1 (rep_a hp1 hp2)
  have f6 : RdI J ⟨b2, 0 + 64, none⟩ (.int .i64 q.a) := RdI.told m2 (rep_a hq1 hq2)
  have f7 : RdI J ⟨b1, 0 + 65, none⟩ (slO oa p.L.length ca) := RdI.told m1 (rep_sl hp1 hp2)
  have f8 : RdI J ⟨b2, 0 + 65, none⟩ (slO ob q.L.length cb) := RdI.told m2 (rep_sl hq1 hq2)
  have l1 : (p.cells (slO oa p.L.length ca)).length = 66 := rep_len hp1 hp2
  have l2 : (q.cells (slO ob q.L.length cb)).length = 66 := rep_len hq1 hq2
  refine CW.rg (RL.loadSq Try.isAgg93 Try.sizeOf93 rfl rfl rfl rfl ?_)
  refine RL.callv (rholds_any p oa ca p.L.length hp1 hp2 rfl (by omega)) Try.call37 rfl rfl rfl rfl (.inI m3 .nil) ?_
  refine RL.p rfl (RL.p rfl ?_)
  apply RL.orB (d := 9) (dp := 13) (l' := (Sq.of [8, 9, 10, 11, 12, 13, 14, 15, 16, 17, 18, 19, 20, 21, 22, 23, 24, 25])) rfl (sK [2, 3, 4, 5] rfl)
  ·
    intro hb4 K4
    refine RL.loadSq Try.isAgg93 Try.sizeOf93 rfl rfl rfl rfl ?_
    refine RL.callv (rholds_any q ob cb q.L.length hq1 hq2 rfl (by omega)) Try.call37 rfl rfl rfl rfl (.inI m4 .nil) ?_
    refine RL.p rfl (RL.p rfl ?_)
    exact K4 _ (.cons rfl (sK [2, 3, 4, 5] rfl))
  ·
    intro hb4 K4
    refine RL.p rfl (RL.p rfl (RL.p rfl (RL.p rfl ?_)))
    exact K4 _ (.cons rfl (sK [2, 3, 4, 5] rfl))
  refine RL.p rfl ?_
  apply RL.orB (d := 14) (dp := 20) (l' := (Sq.of [15, 16, 17, 18, 19, 20, 21, 22, 23, 24, 25])) rfl (sK [2, 3, 4, 5] rfl)
  ·
    intro hb9 K9
    refine RL.fieldAddr fa_93_1 rfl rfl rfl rfl (RL.loadSq Try.isAgg78 Try.sizeOf78 rfl rfl rfl rfl ?_)
    refine RL.fieldAddr fa_93_0 rfl rfl rfl rfl (RL.loadSq Try.isAgg78 Try.sizeOf78 rfl rfl rfl rfl ?_)
    refine RL.cmp rfl rfl rfl rfl rfl (dig_ne _ _ hp2 hq1 _ _) (RL.p rfl ?_)
    exact K9 _ (.cons rfl (sK [2, 3, 4, 5] rfl))
  ·
    intro hb9 K9
    refine RL.p rfl (RL.p rfl (RL.p rfl (RL.p rfl (RL.p rfl (RL.p rfl ?_)))))
    exact K9 _ (.cons rfl (sK [2, 3, 4, 5] rfl))
  refine RL.p rfl ?_
  apply RL.orB (d := 21) (dp := 31) (l' := (Sq.of [])) rfl (sK [2, 3, 4, 5] rfl)
  ·
    intro hb16 K16
    refine RL.fieldAddr fa_93_2 rfl rfl rfl rfl (RL.loadq Try.isAgg3 rfl rfl rfl rfl ?_)
    refine RL.fieldAddr fa_93_3 rfl rfl rfl rfl (RL.loadq Try.isAgg91 rfl rfl rfl rfl ?_)
    refine RL.lenS Try.runUnderlying91 rfl rfl rfl rfl (RL.p rfl (RL.fieldAddr fa_93_2 rfl rfl rfl rfl (RL.loadq Try.isAgg3 rfl rfl rfl rfl ?_)))
    refine RL.p rfl (RL.p rfl ?_)
    exact K16 _ (.cons rfl (sK [2, 3, 4, 5] rfl))
  ·
    intro hb16 K16
    refine RL.p rfl (RL.p rfl (RL.p rfl (RL.p rfl (RL.p rfl (RL.p rfl (RL.p rfl (RL.p rfl (RL.p rfl (RL.p rfl ?_)))))))))
    exact K16 _ (.cons rfl (sK [2, 3, 4, 5] rfl))
  refine RL.nil (NQ.seq ?_)
  refine CW.cond rfl (fun hc => ?_) (fun hc => ?_)
  ·
    refine CW.seq (CW.region (ef := [1]) (bk := [1]) (RL.buildS _ Try.zeroValue93 pl_93 rfl rfl rfl rfl rfl (RL.storeWq Try.sizeOf93 rfl rfl rfl rfl rfl rfl rfl ?_)))
    refine RL.p rfl (RL.nil (NQ.seq (CW.ret (RQ.seq ?_))))
    have hno : ¬ joinC p q := by
      rintro ⟨e1, e2, e3, e4⟩
      simp [e1, e2, e3, e4] at hc
    obtain ⟨e1, e2⟩ := join_no hno
    rw [e1, e2]
    refine RQ.ownNone (e := 87) 4 ?_
    exact RQ.post (resWT rfl rfl rfl Try.isAgg93 Try.sizeOf93 (by repeat (first | exact List.Mem.head _ | apply List.Mem.tail)) rfl) (.keep (Split.none _)) ⟨none, 0, rfl, rfl, rfl⟩
  ·
    have hyes : joinC p q := by
      simp at hc
      refine ⟨hc.1.1.1, hc.1.1.2, hc.1.2, ?_⟩
      exact hc.2
    obtain ⟨e1, e2⟩ := join_yes hyes
    rw [e1, e2]
    refine CW.skip (NQ.seq (CW.seq (CW.regionD (Sq.of [0, 1, 2, 3, 4, 5, 7, 8, 10, 11, 6, 9, 12, 13, 14, 15]) [6, 9, 12, 14] [9, 12, 14] [0, 1, 2, 3, 4, 5, 7, 8, 10, 11, 13, 15] mixed (by kernel_rfl) ?_)))
    refine RL.fieldAddr fa_93_0 rfl rfl rfl rfl (RL.loadSTq Try.isAgg78 Try.sizeOf78 rfl rfl rfl rfl ?_)
    refine RL.fieldAddr fa_93_1 rfl rfl rfl rfl (RL.loadSTq Try.isAgg78 Try.sizeOf78 rfl rfl rfl rfl ?_)
    refine RL.fieldAddr fa_93_2 rfl rfl rfl rfl (RL.loadTq Try.isAgg3 rfl rfl rfl rfl ?_)
    refine RL.fieldAddr fa_93_3 rfl rfl rfl rfl (RL.loadTq Try.isAgg91 rfl rfl rfl rfl ?_)
    refine RL.fieldAddr fa_93_3 rfl rfl rfl rfl (RL.loadTq Try.isAgg91 rfl rfl rfl rfl ?_)
    refine RL.buildOwn [] Try.runUnderlying91 Try.sizeOf87 Try.zeroValue87 rfl rfl (by decide) (by decide) rfl (by decide) rfl rfl rfl rfl rfl rfl ?_
    intro oq
    refine RL.appendA el_91 rfl rfl rfl rfl rfl rfl rfl (by first | exact ⟨(.take (Pick.none _)), rfl⟩ | exact ⟨(.leave (.take (Pick.none _))), rfl⟩ | exact ⟨(.leave (.leave (.take (Pick.none _)))), rfl⟩ | exact ⟨(.leave (.leave (.leave (.take (Pick.none _))))), rfl⟩ | exact ⟨(.leave (.leave (.leave (.leave (.take (Pick.none _)))))), rfl⟩ | exact ⟨(.leave (.leave (.leave (.leave (.leave (.take (Pick.none _))))))), rfl⟩ | exact ⟨(.leave (.leave (.leave (.leave (.leave (.leave (.take (Pick.none _)))))))), rfl⟩ | exact ⟨(.leave (.leave (.leave (.leave (.leave (.leave (.leave (.take (Pick.none _))))))))), rfl⟩ | exact ⟨(.leave (.leave (.leave (.leave (.leave (.leave (.leave (.leave (.take (Pick.none _)))))))))), rfl⟩ | exact ⟨(.leave (.leave (.leave (.leave (.leave (.leave (.leave (.leave (.leave (.take (Pick.none _))))))))))), rfl⟩) (Src.sls m3) (ents_ones _) (by first | omega | (simp only [maxLen]; omega)) (by first | omega | (simp only [maxLen]; omega)) ?_
    intro ob1 cap1 ho1
    refine RL.appendA el_91 rfl rfl rfl rfl rfl rfl rfl (by first | exact ⟨(.take (Pick.none _)), rfl⟩ | exact ⟨(.leave (.take (Pick.none _))), rfl⟩ | exact ⟨(.leave (.leave (.take (Pick.none _)))), rfl⟩ | exact ⟨(.leave (.leave (.leave (.take (Pick.none _))))), rfl⟩ | exact ⟨(.leave (.leave (.leave (.leave (.take (Pick.none _)))))), rfl⟩ | exact ⟨(.leave (.leave (.leave (.leave (.leave (.take (Pick.none _))))))), rfl⟩ | exact ⟨(.leave (.leave (.leave (.leave (.leave (.leave (.take (Pick.none _)))))))), rfl⟩ | exact ⟨(.leave (.leave (.leave (.leave (.leave (.leave (.leave (.take (Pick.none _))))))))), rfl⟩ | exact ⟨(.leave (.leave (.leave (.leave (.leave (.leave (.leave (.leave (.take (Pick.none _)))))))))), rfl⟩ | exact ⟨(.leave (.leave (.leave (.leave (.leave (.leave (.leave (.leave (.leave (.take (Pick.none _))))))))))), rfl⟩) (Src.sls m4) (ents_ones _) (by first | omega | (simp only [maxLen]; omega)) (by first | omega | (simp only [maxLen]; omega)) ?_
    intro ob2 cap2 ho2
    refine RL.buildS (Rep.cells ⟨p.fr, q.to, p.a, []⟩ (slO ob2 (0 + p.L.length + q.L.length) cap2)) Try.zeroValue93 pl_93 rfl rfl rfl rfl (fill_rep4 hp1 hq2 rfl rfl) (RL.storeW Try.sizeOf93 rfl rfl rfl rfl rfl rfl rfl (ones_rep _ rfl) (by repeat (first | exact Upd.here | apply Upd.there)) (rep_len hp1 hq2) rfl ?_)
    refine RL.p rfl (RL.nil (NQ.seq (CW.ok [4, 5] rfl (CW.ret ?_))))
    have hL : 0 + p.L.length + q.L.length = (joinP p q).L.length := by simp [joinP]
    have hV : ([] ++ entsV p.L) ++ entsV q.L = entsV (joinP p q).L := by simp [joinP, entsV]
    rw [hV, hL]
    exact RQ.post (resWT rfl rfl rfl Try.isAgg93 Try.sizeOf93 (by repeat (first | exact List.Mem.head _ | apply List.Mem.tail)) (rep_len (p := ⟨p.fr, q.to, p.a, []⟩) hp1 hq2)) (.keep (.drop .nil)) ⟨ob2, cap2, rfl, rfl, rfl⟩
end Go.Proofs.Ytbdnebedmdoehaa
