import Derived.Test.YtbdnebedmdoehaaT9
import Derived.Test.YtbdnebedmdoehaaTFacts
namespace Go.Proofs.Ytbdnebedmdoehaa
open Go.PK

/-- Where entries lead, if all of them may be. -/
def leadsD (h : List B8) : List Ent → Option (List B8)
  | [] => some h
  | x :: r => if x.ok then leadsD (nextD h x) r else none
open Classical in
noncomputable def holdsE (p : Rep) : Int := if leadsD p.fr p.L = some p.to ∧ 0 ≤ p.a then 0 else 360
theorem leadsD_snoc : ∀ (l : List Ent) (h : List B8), (∀ x ∈ l, x.ok = true) → leadsD h l = some (l.foldl nextD h)
  | [], _, _ => rfl
  | x :: l, h, hl => by rw [leadsD, if_pos (hl x (by simp)), leadsD_snoc l _ (fun y hy => hl y (by simp [hy]))]; rfl
theorem leads_len : ∀ (l : List Ent) (h h' : List B8), h.length = 32 → leadsD h l = some h' → h'.length = 32
  | [], h, h', hl, he => by cases he; exact hl
  | x :: l, h, h', hl, he => by
    rw [leadsD] at he
    split at he
    · exact leads_len l _ h' (nextD_length _ _) he
    · cases he
theorem ent_rds {I H : List It} {b n i : Nat} {l : List Ent} {x : Ent} (hm : sls (some ⟨b, 0, none⟩) 4 n (entsV l) ∈ I) (hx : l[i]? = some x) : Rds I H ⟨b, 0 + i * 4, none⟩ x.cells := by
  have h := Rds.part (H := H) (j := i * 4) (vs := x.cells) (Rds.sls hm) (fun q u hu => by
    have hlt : q < 4 := (List.getElem?_eq_some_iff.1 hu).1
    rw [get_flat (ent_len l) hx hlt]; exact hu)
  rwa [add_none] at h

theorem tholds_any (p : Rep) (oa : Option Nat) (ca n : Nat) (h1 : p.fr.length = 32) (h2 : p.to.length = 32) (hn : p.L.length = n) (hl : n ≤ 1000000) :
    Spc Try.prog 36 #[.agg (p.cells (slO oa n ca)).toArray] [sls (oa.map fun b => ⟨b, 0, none⟩) 4 n (entsV p.L)] [] (Is (.int .i64 (holdsE p))) := by
  subst hn
  refine Spc.enter Try.func36 rfl rfl rfl (fun w0 hw0 => ?_)
  refine CW.seq (CW.region (ef := [0]) (bk := []) (RL.box rfl rfl rfl rfl rfl rfl ?_))
  intro b1
  refine RL.p rfl (RL.nil (NQ.seq (CW.seq (CW.freezeAll rfl ?_))))
  simp only [List.cons_append, List.nil_append]
  refine CW.region (ef := [2, 3]) (bk := [3]) (RL.fieldAddr fa_81_0 rfl rfl rfl rfl (RL.loadA Try.isAgg78 Try.sizeOf78 rfl rfl rfl rfl (vs := bytes p.fr) (Rds.celI (by repeat (first | exact List.Mem.head _ | apply List.Mem.tail)) (rep_fr h1)) (by rw [List.length_map, h1]) ?_))
  refine RL.alloc (cs := List.replicate 32 (U8 0#8)) Try.zeroValue78 rfl rfl rfl rfl rfl ?_
  intro b2
  refine RL.storeWq Try.sizeOf78 rfl rfl rfl rfl rfl rfl rfl ?_
  refine RL.nil (NQ.seq (CW.seq (CW.seq (CW.rg (RL.fieldAddr fa_81_3 rfl rfl rfl rfl (RL.load Try.isAgg79 rfl rfl rfl rfl (Rd.getI (by repeat (first | exact List.Mem.head _ | apply List.Mem.tail)) (rep_sl h1 h2)) ?_))))))
  refine RL.lenS Try.runUnderlying79 rfl rfl rfl rfl (RL.p rfl (RL.nil (NQ.seq (CW.block ?_))))
  refine CW.loop (γ := Nat × List B8) (fun g => g.1 ≤ p.L.length ∧ g.2.length = 32 ∧ leadsD p.fr p.L = leadsD g.2 (p.L.drop g.1)) (fun g => [(1, .pointer (some ⟨b1, 0, none⟩)), (3, .pointer (some ⟨b2, 0, none⟩)), (10, slO oa p.L.length ca), (11, .int .i64 (p.L.length : Int)), (12, .int .i64 (g.1 : Int))])
    (fun _ => [cel b1 (p.cells (slO oa p.L.length ca)) 81, sls (oa.map fun b => ⟨b, 0, none⟩) 4 p.L.length (entsV p.L)]) (fun g => [cel b2 (bytes g.2) 78]) (fun g => p.L.length - g.1) (0, p.fr) ⟨by simp, h1, by simp⟩ (.cons rfl (.cons rfl (.cons rfl (.cons rfl (.cons rfl .nil))))) (fun w h => h) ?_
  rintro ⟨i, h⟩ ⟨hi, hh, he⟩
  dsimp only at hi hh he ⊢
  refine CW.fact (p := oa = none → p.L.length = 0) (fun w hC e => sls_nil (hC.s.i (sls (oa.map fun b => ⟨b, 0, none⟩) 4 p.L.length (entsV p.L)) (by repeat (first | exact List.Mem.head _ | apply List.Mem.tail))) (by rw [e]; rfl)) (fun hpa => ?_)
  refine CW.seq (CW.rg (RL.p rfl (RL.nil (NQ.seq (CW.seq ?_)))))
  refine CW.cond rfl (fun hlt => ?_) (fun hlt => ?_)
  ·
    have hlt : i < p.L.length := by simp at hlt; omega
    cases oa with
    | none => exact absurd (hpa rfl) (by omega)
    | some ba =>
    have hx := List.getElem?_eq_getElem hlt
    have hd : p.L.drop i = p.L[i] :: p.L.drop (i + 1) := List.drop_eq_getElem_cons hlt
    generalize p.L[i] = x at hx hd
    rw [hd, leadsD] at he
    refine CW.skip (NQ.seq (CW.seq (CW.block (CW.seq (CW.region (ef := [2, 3]) (bk := [3]) (RL.idxAt (j := i) Try.runUnderlying79 Try.sizeOf83 rfl rfl rfl rfl rfl rfl (hlt) (RL.loadN (vs := x.cells) Try.isAgg83 Try.sizeOf83 rfl rfl rfl rfl (ent_rds (by repeat (first | exact List.Mem.head _ | apply List.Mem.tail)) hx) ?_)))))))
    refine RL.alloc Try.zeroValue83 rfl rfl rfl rfl rfl ?_
    intro b3
    refine RL.store (vs := [_, _, _, _]) Try.sizeOf83 rfl rfl rfl rfl rfl rfl rfl rfl rfl (by repeat (first | exact Upd.here | apply Upd.there)) ?_
    refine RL.nil (NQ.seq (CW.seq (CW.rg (RL.p rfl (RL.nil (NQ.seq (CW.seq (CW.region (ef := [2, 6]) (bk := [6]) (RL.loadW Try.isAgg78 Try.sizeOf78 rfl rfl rfl rfl (by repeat (first | exact List.Mem.head _ | apply List.Mem.tail)) (by first | rfl | assumption | (simp only [List.length_map]; assumption) | (simp only [List.length_map, List.length_replicate, h1]; done) | (simp; done)) ?_)))))))))
    refine RL.loadN (vs := x.cells) Try.isAgg83 Try.sizeOf83 rfl rfl rfl rfl (Rds.all (by repeat (first | exact List.Mem.head _ | apply List.Mem.tail))) ?_
    refine RL.callvq (next_any h hh x) Try.call29 rfl rfl rfl rfl ?_
    refine RL.p rfl ?_
    cases hxo : x.ok with
    | false =>
      rw [next_no hxo]
      rw [if_neg (by simp [hxo])] at he
      refine RL.p rfl (RL.p rfl (RL.storeWq Try.sizeOf78 rfl rfl rfl rfl rfl rfl rfl ?_))
      refine RL.p rfl (RL.nil (NQ.seq (CW.ok [1, 3, 6, 10, 11, 12] rfl (CW.seq (CW.rg (RL.p rfl (RL.p rfl (RL.nil (NQ.seq (CW.condT rfl (rfl) (CW.seq (CW.rg (RL.p rfl ?_)))))))))))))
      refine RL.nil (NQ.seq (CW.ret (RQ.block (RQ.seq (RQ.seq (RQ.block (RQ.seq ?_)))))))
      exact RQ.post (res1 rfl rfl) (Split.none _) ⟨by rw [holdsE, he, if_neg (by simp)], rfl, rfl⟩
    | true =>
      rw [next_yes hxo]
      rw [if_pos hxo] at he
      refine RL.p rfl (RL.p rfl (RL.storeWq Try.sizeOf78 rfl rfl rfl rfl rfl rfl rfl ?_))
      refine RL.p rfl (RL.nil (NQ.seq (CW.ok [1, 3, 6, 10, 11, 12] rfl (CW.seq (CW.rg (RL.p rfl (RL.p rfl (RL.nil (NQ.seq (CW.condF rfl (rfl) (CW.skip (NQ.block (NQ.seq ?_)))))))))))))
      refine CW.rg (RL.bx rfl (wrapV_i64 (by omega) (by omega)) ?_)
      refine RL.p rfl (RL.nil ?_)
      refine NQ.round (g := (i, h)) (i + 1, nextD h x) ⟨hlt, nextD_length h x, he⟩ (by show p.L.length - (i + 1) < p.L.length - i; omega) (.cons rfl (.cons rfl (.cons rfl (.cons rfl (.cons rfl .nil))))) (fun w h => h.rea (fun _ h => by simpa using h) (by repeat (first | exact Rea.nil | (apply Rea.cons; (solve | (repeat (first | exact Del.here | apply Del.there)))))))
  ·
    have hin : i = p.L.length := by simp at hlt; omega
    subst hin
    rw [List.drop_length, leadsD] at he
    refine CW.exit (XQ.seq (XQ.seq (XQ.hit (NQ.seq (CW.seq (CW.seq (CW.rg (RL.fieldAddr fa_81_2 rfl rfl rfl rfl (RL.load Try.isAgg3 rfl rfl rfl rfl (Rd.getI (by repeat (first | exact List.Mem.head _ | apply List.Mem.tail)) (rep_a h1 h2)) ?_)))))))))
    refine RL.p rfl (RL.p rfl ?_)
    refine RL.part (d := 28) rfl (fun ha => ?_) (fun ha => ?_)
    ·
      refine RL.p rfl (RL.p rfl (RL.p rfl (RL.p rfl (RL.p rfl (RL.nil (NQ.seq (CW.ok [33] rfl (CW.condT rfl rfl (CW.seq (CW.rg (RL.p rfl (RL.nil (NQ.seq ?_)))))))))))))
      refine CW.ret (RQ.seq ?_)
      exact RQ.post (res1 rfl rfl) (Split.none _) ⟨by rw [holdsE, if_neg (by simp at ha; omega)], rfl, rfl⟩
    ·
      refine RL.loadW Try.isAgg78 Try.sizeOf78 rfl rfl rfl rfl (by repeat (first | exact List.Mem.head _ | apply List.Mem.tail)) (by rw [List.length_map, hh]) ?_
      refine RL.fieldAddr fa_81_1 rfl rfl rfl rfl (RL.loadA Try.isAgg78 Try.sizeOf78 rfl rfl rfl rfl (vs := bytes p.to) (Rds.celI (by repeat (first | exact List.Mem.head _ | apply List.Mem.tail)) (rep_to h1)) (by rw [List.length_map, h2]) ?_)
      refine RL.cmp rfl rfl rfl rfl rfl (dig_ne h p.to hh h2 _ _) (RL.p rfl (RL.nil (NQ.seq (CW.ok [33] rfl ?_))))
      refine CW.cond rfl (fun hne => ?_) (fun hne => ?_)
      ·
        refine CW.seq (CW.rg (RL.p rfl (RL.nil (NQ.seq (CW.ret (RQ.seq ?_))))))
        have hne : h ≠ p.to := by simpa using hne
        exact RQ.post (res1 rfl rfl) (Split.none _) ⟨by rw [holdsE, he, if_neg (fun e => hne (Option.some.inj e.1))], rfl, rfl⟩
      ·
        refine CW.skip (NQ.seq (CW.seq (CW.rg (RL.p rfl (RL.nil (NQ.seq (CW.ret ?_)))))))
        have hne : h = p.to := by simpa using hne
        exact RQ.post (res1 rfl rfl) (Split.none _) ⟨by rw [holdsE, he, hne, if_pos ⟨rfl, by simp at ha; omega⟩], rfl, rfl⟩
end Go.Proofs.Ytbdnebedmdoehaa
