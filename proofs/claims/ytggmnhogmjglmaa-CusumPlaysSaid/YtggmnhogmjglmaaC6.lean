import Derived.Test.YtggmnhogmjglmaaBase0
import Derived.Test.YtggmnhogmjglmaaC5
import Derived.Test.YtggmnhogmjglmaaCSort
namespace Go.Proofs.Ytggmnhogmjglmaa
open Go.PK
/-! ### Drifts -/
def drP (most : Int) (x : (Int × Int) × (Int × Int)) : Bool := decide (max x.2.1 x.2.2 > most)
def dks (most : Int) (c : Held) : List (Int × Int) := (c.filter (drP most)).map (·.1)
theorem dks_perm {most : Int} {a b : Held} (h : a.Perm b) : (dks most a).Perm (dks most b) := (h.filter _).map _
theorem dks_le (most : Int) (c : Held) : (dks most c).length ≤ c.length := by
  have := List.length_filter_le (drP most) c
  simpa [dks] using this
theorem drifts_ok (b r : Nat) (slack most : Int) (c : Held) (hl : c.length ≤ 100000) : Spc Try.prog 33 #[.pointer (some ⟨b, 0, none⟩)] [] [mon b r slack most, sumsOf r c]
    (fun v I' H' => ∃ ob cap n, n = (dks most c).length ∧ v = slO ob n cap ∧ I' = [] ∧ H' = [own ob cap 79 2 n (((dks most c).mergeSort lexLe).flatMap plc), sumsOf r c, mon b r slack most]) := by
  unfold sumsOf
  refine Spc.enter Try.func33 rfl rfl rfl (fun w0 hw0 => ?_)
  refine CW.seq ?_
  refine CW.region (ef := []) (bk := []) ?_
  refine RL.assign rfl rfl rfl rfl ?_
  refine RL.nil ?_
  refine NQ.seq ?_
  refine CW.seq ?_
  refine CW.region (ef := []) (bk := []) ?_
  refine RL.assign rfl rfl rfl rfl ?_
  refine RL.nil ?_
  refine NQ.seq ?_
  refine CW.seq ?_
  refine CW.seq ?_
  refine CW.region (ef := []) (bk := []) ?_
  refine RL.move rfl rfl rfl rfl ?_
  refine RL.callvq (is_yes _ _ _ _) Try.call41 rfl rfl rfl rfl ?_
  refine RL.not rfl rfl rfl rfl ?_
  refine RL.nil ?_
  refine NQ.seq ?_
  refine CW.condF rfl (rfl) ?_
  refine CW.ownNone (e := 79) 2 ?_
  unfold mon
  refine CW.skip ?_
  refine NQ.seq ?_
  refine CW.seq ?_
  refine CW.seq ?_
  refine CW.region (ef := [4]) (bk := [4]) ?_
  refine RL.move rfl rfl rfl rfl ?_
  refine RL.nilCheck rfl rfl rfl rfl ?_
  refine RL.fieldAddr fa_100_2 rfl rfl rfl rfl ?_
  refine RL.loadq Try.isAgg98 rfl rfl rfl rfl ?_
  refine RL.range Try.runUnderlying98 rfl rfl rfl rfl rfl rfl (by repeat (first | exact Pick.nil | apply Pick.take | apply Pick.leave)) (fun it => ?_)
  refine RL.nil ?_
  refine NQ.seq ?_
  refine CW.only (.cons (k := 0) rfl (.cons (k := 2) rfl (.cons (k := 3) rfl (.cons (k := 14) rfl .nil)))) ?_
  refine CW.block ?_
  rw [← mon]
  refine CW.loop (γ := Held × List (Int × Int) × Option Nat × Nat × Nat) (fun g => (g.2.1 ++ dks most g.1).Perm (dks most c) ∧ g.2.2.2.2 = g.2.1.length) (fun g => [(0, .pointer (some ⟨b, 0, none⟩)), (3, slO g.2.2.1 g.2.2.2.2 g.2.2.2.1), (14, .pointer (some ⟨it, 0, none⟩))]) (fun _ => [])
    (fun g => [mapIt r it goodPl (enc c) (enc g.1), own g.2.2.1 g.2.2.2.1 79 2 g.2.2.2.2 (g.2.1.flatMap plc), mon b r slack most]) (fun g => g.1.length) (c, [], none, 0, 0) ⟨List.Perm.refl _, rfl⟩ (.cons rfl (.cons rfl (.cons rfl .nil))) (fun w h => h.rea (fun _ h => h) (by repeat (first | exact Rea.nil | (apply Rea.cons; (solve | (repeat (first | exact Del.here | apply Del.there))))))) ?_
  rintro ⟨L, acc, ob, cp, n⟩ ⟨hp, hn⟩
  dsimp only at hp hn ⊢
  have hlen : n ≤ 100000 := by
    have := hp.length_eq
    have h2 := dks_le most c
    rw [List.length_append] at this
    omega
  refine CW.seq ?_
  refine CW.region (ef := [0]) (bk := [0]) ?_
  refine RL.nextC rfl rfl rfl rfl rfl rfl (.take (Pick.none _)) (fun hl0 => ?_) (fun q p hq => ?_)
  · have hL : L = [] := by cases L with
      | nil => rfl
      | cons => cases hl0
    subst hL
    have hnl : n = (dks most c).length := by have := hp.length_eq; simp [dks] at this; rw [hn, this]; simp [dks]
    refine RL.extract rfl rfl rfl rfl rfl ?_
    refine RL.nil ?_
    refine NQ.seq ?_
    refine CW.seq ?_
    refine CW.condF rfl ((by simp)) ?_
    refine CW.exit ?_
    refine XQ.seq ?_
    refine XQ.seq ?_
    refine XQ.hit ?_
    refine NQ.seq ?_
    refine CW.seq ?_
    refine CW.unrange ?_
    refine CW.region (ef := [1]) (bk := [1]) ?_
    refine RL.move rfl rfl rfl rfl ?_
    refine RL.callq (sortP_o ob cp n acc hn.symm (by omega)) Try.call47 rfl rfl rfl rfl rfl (.inr rfl) ?_
    rintro _ _ _ ⟨rfl, rfl, rfl⟩
    refine RL.nil ?_
    refine NQ.seq ?_
    refine CW.only (.cons (k := 3) rfl .nil) ?_
    refine CW.seq ?_
    refine CW.region (ef := []) (bk := []) ?_
    refine RL.move rfl rfl rfl rfl ?_
    refine RL.assign rfl rfl rfl rfl ?_
    refine RL.nil ?_
    refine NQ.seq ?_
    refine CW.ret ?_
    have hs : acc.mergeSort lexLe = (dks most c).mergeSort lexLe := sort_perm (by simpa [dks] using hp)
    rw [hs]
    exact RQ.post (res1 rfl rfl) (.keep (.keep (.keep .nil))) ⟨ob, cp, n, hnl, rfl, rfl, rfl⟩
  ·
    obtain ⟨⟨⟨s, a⟩, ⟨u, d⟩⟩, hq', rfl⟩ : ∃ x, L[q]? = some x ∧ (pl x.1, pr x.2) = p := by
      rw [enc, List.getElem?_map] at hq
      cases hx : L[q]? with
      | none => rw [hx] at hq; cases hq
      | some x => rw [hx] at hq; exact ⟨x, rfl, by simpa using hq⟩
    have hsz : (L.eraseIdx q).length < L.length := by rw [List.length_eraseIdx_of_lt (List.getElem?_eq_some_iff.1 hq').1]; have := (List.getElem?_eq_some_iff.1 hq').1; omega
    have hpm := dks_perm (most := most) (perm_erase' hq')
    rw [show (enc L).eraseIdx q = enc (L.eraseIdx q) from (map_eraseIdx' _ _ _).symm]
    refine RL.extract rfl rfl rfl rfl rfl ?_
    refine RL.nil ?_
    refine NQ.seq ?_
    refine CW.seq ?_
    refine CW.condT rfl ((by simp)) ?_
    refine CW.skip ?_
    refine NQ.seq ?_
    refine CW.block ?_
    refine CW.seq ?_
    refine CW.region (ef := [3, 4, 5, 6]) (bk := [5, 6]) ?_
    refine RL.entry rfl rfl rfl rfl (List.Mem.head _) ?_
    refine RL.extract rfl rfl rfl rfl rfl ?_
    refine RL.extract rfl rfl rfl rfl rfl ?_
    refine RL.alloc Try.zeroValue79 rfl rfl rfl rfl rfl ?_
    intro b1
    refine RL.alloc Try.zeroValue107 rfl rfl rfl rfl rfl ?_
    intro b2
    refine RL.store (vs := [_, _]) Try.sizeOf79 rfl rfl rfl rfl rfl rfl rfl rfl rfl (by repeat (first | exact Upd.here | apply Upd.there)) ?_
    refine RL.store (vs := [_, _]) Try.sizeOf107 rfl rfl rfl rfl rfl rfl rfl rfl rfl (by repeat (first | exact Upd.here | apply Upd.there)) ?_
    refine RL.nil ?_
    refine NQ.seq ?_
    refine CW.seq ?_
    refine CW.region (ef := []) (bk := []) ?_
    refine RL.move rfl rfl rfl rfl ?_
    refine RL.loadN (vs := [_, _]) Try.isAgg107 Try.sizeOf107 rfl rfl rfl rfl (by first | (apply Rds.cel; (solve | (repeat (first | exact List.Mem.head _ | apply List.Mem.tail))); exact at_spec ⟨rfl, rfl, trivial⟩) | (apply Rds.celI; (solve | (repeat (first | exact List.Mem.head _ | apply List.Mem.tail))); exact at_spec ⟨rfl, rfl, trivial⟩) | assumption | (apply RdsI.rds; assumption)) ?_
    refine RL.callvq (drifts_any b r slack most u d) Try.call44 rfl rfl rfl rfl ?_
    refine RL.nil ?_
    refine NQ.seq ?_
    refine CW.only (.cons (k := 0) rfl (.cons (k := 3) rfl (.cons (k := 4) rfl (.cons (k := 14) rfl (.cons (k := 22) rfl .nil))))) ?_
    refine CW.cond rfl (fun hd => ?_) (fun hd => ?_)
    ·
      refine CW.region (ef := [2, 3]) (bk := [3]) ?_
      refine RL.move rfl rfl rfl rfl ?_
      refine RL.loadN (vs := [_, _]) Try.isAgg79 Try.sizeOf79 rfl rfl rfl rfl (by first | (apply Rds.cel; (solve | (repeat (first | exact List.Mem.head _ | apply List.Mem.tail))); exact at_spec ⟨rfl, rfl, trivial⟩) | (apply Rds.celI; (solve | (repeat (first | exact List.Mem.head _ | apply List.Mem.tail))); exact at_spec ⟨rfl, rfl, trivial⟩) | assumption | (apply RdsI.rds; assumption)) ?_
      refine RL.buildSlice [_, _] Try.runUnderlying93 Try.sizeOf79 Try.zeroValue79 rfl rfl (by decide) (by decide) rfl rfl rfl rfl rfl rfl ?_
      intro b3
      refine RL.appendq el_93 rfl rfl rfl rfl rfl rfl rfl ?_ (hs := (by first | (exact Src.cel (by (solve | (repeat (first | exact List.Mem.head _ | apply List.Mem.tail)))) (by first | rfl | assumption | (simp only [List.length_map]; assumption) | (simp only [List.length_map, List.length_replicate]; done) | (simp; done))) | (exact Src.ownS (by (solve | (repeat (first | exact List.Mem.head _ | apply List.Mem.tail))))) | (exact Src.own (by (solve | (repeat (first | exact List.Mem.head _ | apply List.Mem.tail))))) | (exact Src.sls (by (solve | (repeat (first | exact List.Mem.head _ | apply List.Mem.tail))))) | (exact Src.celI (by (solve | (repeat (first | exact List.Mem.head _ | apply List.Mem.tail)))) (by first | rfl | assumption | (simp only [List.length_map]; assumption) | (simp only [List.length_map, List.length_replicate]; done) | (simp; done)))))
      intro ob1 cap1 ho1
      refine RL.assign rfl rfl rfl rfl ?_
      refine RL.nil ?_
      refine NQ.block ?_
      refine NQ.round (g := (L, acc, ob, cp, n)) (L.eraseIdx q, acc ++ [(s, a)], ob1, cap1, n + 1) ⟨?_, by simp [hn]⟩ hsz (.cons rfl (.cons rfl (.cons rfl .nil))) (fun w h => (h.rea (H' := [mapCt r it goodPl (enc c) (enc (L.eraseIdx q)) (pl (s, a), pr (u, d)), own ob1 cap1 79 2 (n + 1) ((acc ++ [(s, a)]).flatMap plc), mon b r slack most]) (fun _ h => h) (by rw [plc_snoc]; exact (by repeat (first | exact Rea.nil | (apply Rea.cons; (solve | (repeat (first | exact Del.here | apply Del.there)))))))).uncur)
      refine List.Perm.trans ?_ hp
      dsimp only
      rw [List.append_assoc]
      refine List.Perm.append_left _ ?_
      have e : dks most (((s, a), (u, d)) :: L.eraseIdx q) = (s, a) :: dks most (L.eraseIdx q) := by rw [dks, List.filter_cons_of_pos (show drP most ((s, a), (u, d)) = true from hd)]; rfl
      rw [e] at hpm
      exact hpm.symm
    ·
      refine CW.skip ?_
      refine NQ.block ?_
      refine NQ.round (g := (L, acc, ob, cp, n)) (L.eraseIdx q, acc, ob, cp, n) ⟨?_, hn⟩ hsz (.cons rfl (.cons rfl (.cons rfl .nil))) (fun w h => (h.rea (H' := [mapCt r it goodPl (enc c) (enc (L.eraseIdx q)) (pl (s, a), pr (u, d)), own ob cp 79 2 n (acc.flatMap plc), mon b r slack most]) (fun _ h => h) (by repeat (first | exact Rea.nil | (apply Rea.cons; (solve | (repeat (first | exact Del.here | apply Del.there))))))).uncur)
      refine List.Perm.trans ?_ hp
      dsimp only
      refine List.Perm.append_left _ ?_
      have e : dks most (((s, a), (u, d)) :: L.eraseIdx q) = dks most (L.eraseIdx q) := by rw [dks, List.filter_cons_of_neg (by rw [show drP most ((s, a), (u, d)) = false from hd]; decide)]; rfl
      rw [e] at hpm
      exact hpm.symm
end Go.Proofs.Ytggmnhogmjglmaa
