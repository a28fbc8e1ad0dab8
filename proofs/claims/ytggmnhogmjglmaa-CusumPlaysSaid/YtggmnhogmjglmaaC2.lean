import Derived.Test.YtggmnhogmjglmaaCusum
import Derived.Test.YtggmnhogmjglmaaLexSort
import Derived.Test.YtggmnhogmjglmaaPkR
import Derived.Test.YtggmnhogmjglmaaPkV
namespace Go.Proofs.Ytggmnhogmjglmaa
open Go.PK
theorem dcmp_any (a b c d : Int) : Spc Try.prog 48 #[.agg #[.int .i64 a, .int .i64 b], .agg #[.int .i64 c, .int .i64 d]] [] [] (Is (.int .i64 (cmp2 a c b d))) := by
  refine Spc.enter Try.func48 rfl rfl rfl (fun w0 hw0 => ?_)
  refine CW.seq ?_
  refine CW.region (ef := [0, 1]) (bk := []) ?_
  refine RL.box rfl rfl rfl rfl rfl rfl ?_
  intro b1
  refine RL.box rfl rfl rfl rfl rfl rfl ?_
  intro b2
  refine RL.assign rfl rfl rfl rfl ?_
  refine RL.nil ?_
  refine NQ.seq ?_
  refine CW.seq ?_
  refine CW.freezeP (A := [_, _]) (B := []) (.take (.take .nil)) rfl ?_
  refine CW.regionD (Sq.of [0, 1, 2, 3, 4, 5, 6, 7, 8, 9, 10, 11, 12]) [10] [] [0, 1, 2, 3, 4, 5, 6, 7, 8, 9, 12] mixed (by kernel_rfl) ?_
  refine RL.fieldAddr fa_79_0 rfl rfl rfl rfl ?_
  refine RL.loadTq Try.isAgg3 rfl rfl rfl rfl ?_
  refine RL.fieldAddr fa_79_0 rfl rfl rfl rfl ?_
  refine RL.loadTq Try.isAgg3 rfl rfl rfl rfl ?_
  refine RL.callTq (cmp_int a c) Try.call50 rfl rfl rfl rfl ?_
  refine RL.fieldAddr fa_79_1 rfl rfl rfl rfl ?_
  refine RL.loadTq Try.isAgg3 rfl rfl rfl rfl ?_
  refine RL.fieldAddr fa_79_1 rfl rfl rfl rfl ?_
  refine RL.loadTq Try.isAgg3 rfl rfl rfl rfl ?_
  refine RL.callTq (cmp_int b d) Try.call50 rfl rfl rfl rfl ?_
  refine RL.buildSlice [_, _] Try.runUnderlying129 Try.sizeOf3 Try.zeroValue3 rfl rfl (by decide) (by decide) rfl rfl rfl rfl rfl rfl ?_
  intro b3
  refine RL.callv (or_any (some ⟨b3, 0, none⟩) 2 2 [cmpI a c, cmpI b d] rfl (by decide)) Try.call49 rfl rfl rfl rfl (.all (List.Mem.head _) rfl .nil) ?_
  refine RL.assign rfl rfl rfl rfl ?_
  refine RL.nil ?_
  refine NQ.seq ?_
  refine CW.only (.cons (k := 4) rfl .nil) ?_
  refine CW.ret ?_
  exact RQ.post (res1 rfl rfl) (Split.none _) ⟨by rw [or2], rfl, rfl⟩
/-! ### Clear -/
def noS (n : Int) (c : Held) : Held := c.filter fun x => !(x.1.1 == n)
theorem del_filter {n : Int} {p : Int × Int} (hp : p.1 = n) : ∀ c : Held, noS n (del p c) = noS n c
  | [] => rfl
  | (q, v) :: r => by
    rw [del]
    by_cases h : p = q
    · rw [if_pos h]; subst h; simp [noS, hp]
    · rw [if_neg h]
      have := del_filter hp r
      simp only [noS, List.filter_cons] at this ⊢
      rw [this]
theorem enc_mem {c : Held} {x : Value × Value} (h : x ∈ enc c) : ∃ p v, x = (pl p, pr v) ∧ (p, v) ∈ c := by
  obtain ⟨⟨p, v⟩, h1, rfl⟩ := List.mem_map.1 h
  exact ⟨p, v, rfl, h1⟩
theorem del_sub (p : Int × Int) : ∀ c : Held, ∀ x ∈ del p c, x ∈ c
  | (q, v) :: r, x, h => by
    rw [del] at h
    split at h
    · exact List.mem_cons_of_mem _ h
    · rcases List.mem_cons.1 h with h | h
      · rw [h]; exact List.mem_cons_self
      · exact List.mem_cons_of_mem _ (del_sub p r x h)
theorem not_del {p : Int × Int} {v : Int × Int} : ∀ {c : Held}, ((enc c).map (·.1)).Nodup → (p, v) ∉ del p c
  | [], _, h => by cases h
  | (q, u) :: r, hn, h => by
    have hn' : (pl q) ∉ (enc r).map (·.1) ∧ ((enc r).map (·.1)).Nodup := List.nodup_cons.1 hn
    rw [del] at h
    split at h
    · next e => subst e; exact hn'.1 (List.mem_map.2 ⟨(pl p, pr v), List.mem_map.2 ⟨(p, v), h, rfl⟩, rfl⟩)
    · next e =>
      rcases List.mem_cons.1 h with h | h
      · exact e (by cases h; rfl)
      · exact not_del hn'.2 h
theorem clear_bad (b r : Nat) (slack most n : Int) (hn : ¬ (0 ≤ n ∧ n < 8)) : Spc Try.prog 28 #[.pointer (some ⟨b, 0, none⟩), .int .i64 n] [mon b r slack most] [] (Is (.int .i64 2)) := by
  refine Spc.enter Try.func28 rfl rfl rfl (fun w0 hw0 => ?_)
  refine CW.seq ?_
  refine CW.region (ef := []) (bk := []) ?_
  refine RL.assign rfl rfl rfl rfl ?_
  refine RL.nil ?_
  refine NQ.seq ?_
  refine CW.seq ?_
  refine CW.block ?_
  refine CW.seq ?_
  refine CW.region (ef := []) (bk := []) ?_
  refine RL.move rfl rfl rfl rfl ?_
  refine RL.callvq (is_yes _ _ _ _) Try.call41 rfl rfl rfl rfl ?_
  refine RL.not rfl rfl rfl rfl ?_
  refine RL.assign rfl rfl rfl rfl ?_
  refine RL.nil ?_
  refine NQ.seq ?_
  refine CW.condF rfl (rfl) ?_
  refine CW.seq ?_
  refine CW.region (ef := []) (bk := []) ?_
  refine RL.move rfl rfl rfl rfl ?_
  refine RL.callvq (source_any _) Try.call42 rfl rfl rfl rfl ?_
  refine RL.not rfl rfl rfl rfl ?_
  refine RL.assign rfl rfl rfl rfl ?_
  refine RL.nil ?_
  refine NQ.seq ?_
  refine CW.only (.cons (k := 0) rfl (.cons (k := 1) rfl (.cons (k := 4) rfl (.cons (k := 10) rfl .nil)))) ?_
  refine CW.condT rfl (by simp; omega) ?_
  refine CW.seq ?_
  refine CW.region (ef := []) (bk := []) ?_
  refine RL.assign rfl rfl rfl rfl ?_
  refine RL.nil ?_
  refine NQ.seq ?_
  refine CW.ret ?_
  refine RQ.block ?_
  refine RQ.seq ?_
  exact RQ.post (res1 rfl rfl) (Split.none _) ⟨rfl, rfl, rfl⟩
theorem clear_ok (b r : Nat) (slack most n : Int) (c : Held) (hn : 0 ≤ n ∧ n < 8) : Spc Try.prog 28 #[.pointer (some ⟨b, 0, none⟩), .int .i64 n] [] [mon b r slack most, sumsOf r c]
    (fun v I' H' => v = .int .i64 0 ∧ I' = [] ∧ H' = [sumsOf r (noS n c), mon b r slack most]) := by
  unfold mon sumsOf
  refine Spc.enter Try.func28 rfl rfl rfl (fun w0 hw0 => ?_)
  refine CW.seq ?_
  refine CW.region (ef := []) (bk := []) ?_
  refine RL.assign rfl rfl rfl rfl ?_
  refine RL.nil ?_
  refine NQ.seq ?_
  refine CW.seq ?_
  refine CW.block ?_
  refine CW.seq ?_
  refine CW.region (ef := []) (bk := []) ?_
  refine RL.move rfl rfl rfl rfl ?_
  refine RL.callvq (is_yes _ _ _ _) Try.call41 rfl rfl rfl rfl ?_
  refine RL.not rfl rfl rfl rfl ?_
  refine RL.assign rfl rfl rfl rfl ?_
  refine RL.nil ?_
  refine NQ.seq ?_
  refine CW.condF rfl (rfl) ?_
  refine CW.seq ?_
  refine CW.region (ef := []) (bk := []) ?_
  refine RL.move rfl rfl rfl rfl ?_
  refine RL.callvq (source_any _) Try.call42 rfl rfl rfl rfl ?_
  refine RL.not rfl rfl rfl rfl ?_
  refine RL.assign rfl rfl rfl rfl ?_
  refine RL.nil ?_
  refine NQ.seq ?_
  refine CW.only (.cons (k := 0) rfl (.cons (k := 1) rfl (.cons (k := 4) rfl (.cons (k := 10) rfl .nil)))) ?_
  refine CW.condF rfl (by simp; omega) ?_
  refine CW.skip ?_
  refine NQ.block ?_
  refine NQ.seq ?_
  refine CW.seq ?_
  refine CW.seq ?_
  refine CW.region (ef := [4]) (bk := [4]) ?_
  refine RL.move rfl rfl rfl rfl ?_
  refine RL.nilCheck rfl rfl rfl rfl ?_
  refine RL.fieldAddr fa_100_2 rfl rfl rfl rfl ?_
  refine RL.loadq Try.isAgg98 rfl rfl rfl rfl ?_
  refine RL.range Try.runUnderlying98 rfl rfl rfl rfl rfl rfl (by repeat (first | exact Pick.nil | apply Pick.take | apply Pick.leave)) (fun it => ?_)
  refine RL.nil ?_
  refine NQ.seq ?_
  refine CW.block ?_
  refine CW.loop (γ := Held × List (Value × Value)) (fun g => noS n g.1 = noS n c ∧ (∀ x ∈ g.1, x.1.1 = n → (pl x.1, pr x.2) ∈ g.2)) (fun g => [(0, .pointer (some ⟨b, 0, none⟩)), (1, .int .i64 n), (18, .pointer (some ⟨it, 0, none⟩))]) (fun _ => [])
    (fun g => [mapIt r it goodPl (enc g.1) g.2, cel b [.int .i64 slack, .int .i64 most, .map (some r)] 100]) (fun g => g.2.length) (c, enc c) ⟨rfl, fun x hx _ => List.mem_map.2 ⟨x, hx, rfl⟩⟩ (.cons rfl (.cons rfl (.cons rfl .nil))) (fun w h => h.rea (fun _ h => h) (by repeat (first | exact Rea.nil | (apply Rea.cons; (solve | (repeat (first | exact Del.here | apply Del.there))))))) ?_
  rintro ⟨c', left⟩ ⟨hc, hl⟩
  dsimp only at hc hl ⊢
  refine CW.fact (p := (((enc c').map (·.1)).Nodup ∧ (left.map (·.1)).Nodup ∧ (∀ p ∈ left, p ∈ enc c' ∧ goodPl p.1)) ∧ r ≠ it) (fun w hC => ⟨mapIt_facts' (hC.s.h _ (List.Mem.head _)), mapIt_ne' hC⟩) (fun hf => ?_)
  obtain ⟨⟨hf1, hf2, hf3⟩, hne⟩ := hf
  refine CW.seq ?_
  refine CW.region (ef := [0]) (bk := [0]) ?_
  refine RL.nextC rfl rfl rfl rfl rfl rfl (.take (Pick.none _)) (fun hl0 => ?_) (fun q p hq => ?_)
  · subst hl0
    refine RL.extract rfl rfl rfl rfl rfl ?_
    refine RL.nil ?_
    refine NQ.seq ?_
    refine CW.seq ?_
    refine CW.condF rfl ((by simp)) ?_
    refine CW.exit ?_
    refine XQ.seq ?_
    refine XQ.seq ?_
    refine XQ.hit ?_
    refine NQ.seq ?_
    refine CW.seq ?_
    refine CW.unrange ?_
    refine CW.region (ef := []) (bk := []) ?_
    refine RL.assign rfl rfl rfl rfl ?_
    refine RL.nil ?_
    refine NQ.seq ?_
    refine CW.ret ?_
    have hn' : noS n c = c' := by
      rw [← hc]
      refine List.filter_eq_self.2 (fun x hx => ?_)
      have h1 : ¬ x.1.1 = n := fun e => by have := hl x hx e; cases this
      simpa using h1
    rw [hn']
    exact RQ.post (res1 rfl rfl) (.keep (.keep .nil)) ⟨rfl, rfl, rfl⟩
  ·
    obtain ⟨hm, hg⟩ := hf3 p (List.mem_of_getElem? hq)
    obtain ⟨⟨s, a⟩, v, rfl, hcv⟩ := enc_mem hm
    have hlen : (left.eraseIdx q).length < left.length := by rw [List.length_eraseIdx_of_lt (List.getElem?_eq_some_iff.1 hq).1]; have := (List.getElem?_eq_some_iff.1 hq).1; omega
    refine RL.extract rfl rfl rfl rfl rfl ?_
    refine RL.nil ?_
    refine NQ.seq ?_
    refine CW.seq ?_
    refine CW.condT rfl ((by simp)) ?_
    refine CW.skip ?_
    refine NQ.seq ?_
    refine CW.block ?_
    refine CW.seq ?_
    refine CW.region (ef := [2, 3]) (bk := [3]) ?_
    refine RL.entry rfl rfl rfl rfl (List.Mem.head _) ?_
    refine RL.extract rfl rfl rfl rfl rfl ?_
    refine RL.alloc Try.zeroValue79 rfl rfl rfl rfl rfl ?_
    intro b1
    refine RL.store (vs := [_, _]) Try.sizeOf79 rfl rfl rfl rfl rfl rfl rfl rfl rfl (by repeat (first | exact Upd.here | apply Upd.there)) ?_
    refine RL.nil ?_
    refine NQ.seq ?_
    refine CW.seq ?_
    refine CW.region (ef := []) (bk := []) ?_
    refine RL.fieldAddr fa_79_0 rfl rfl rfl rfl ?_
    refine RL.loadq Try.isAgg3 rfl rfl rfl rfl ?_
    refine RL.move rfl rfl rfl rfl ?_
    refine RL.bin rfl rfl rfl rfl rfl rfl ?_
    refine RL.nil ?_
    refine NQ.seq ?_
    refine CW.only (.cons (k := 0) rfl (.cons (k := 1) rfl (.cons (k := 5) rfl (.cons (k := 18) rfl (.cons (k := 26) rfl .nil))))) ?_
    refine CW.cond rfl (fun hs => ?_) (fun hs => ?_)
    ·
      have hs : s = n := by simpa using hs
      have hnl : pl (s, a) ∉ (left.eraseIdx q).map (·.1) := by
        rw [map_eraseIdx']
        exact erase_nodup' (by rw [List.getElem?_map, hq]; rfl) hf2
      refine CW.perm (List.Perm.swap _ _ _) ?_
      refine CW.uncur ?_
      refine CW.regionD (Sq.of [0, 1, 2, 3, 4, 5]) [5] [5] [0, 1, 2] mixed (by kernel_rfl) ?_
      refine RL.move rfl rfl rfl rfl ?_
      refine RL.nilCheck rfl rfl rfl rfl ?_
      refine RL.fieldAddr fa_100_2 rfl rfl rfl rfl ?_
      refine RL.loadq Try.isAgg98 rfl rfl rfl rfl ?_
      refine RL.loadN (vs := [_, _]) Try.isAgg79 Try.sizeOf79 rfl rfl rfl rfl (by first | (apply Rds.cel; (solve | (repeat (first | exact List.Mem.head _ | apply List.Mem.tail))); exact at_spec ⟨rfl, rfl, trivial⟩) | (apply Rds.celI; (solve | (repeat (first | exact List.Mem.head _ | apply List.Mem.tail))); exact at_spec ⟨rfl, rfl, trivial⟩) | assumption | (apply RdsI.rds; assumption)) ?_
      refine RL.deleteIt keyPl Try.runUnderlying98 rfl rfl rfl rfl rfl rfl ⟨(s, a), rfl⟩ hnl hne (by repeat (first | exact Upd.here | apply Upd.there)) ?_
      refine RL.nil ?_
      refine NQ.block ?_
      refine NQ.round (g := (c', left)) (del (s, a) c', left.eraseIdx q) ⟨by rw [del_filter hs]; exact hc, fun x hx e => ?_⟩ hlen (.cons rfl (.cons rfl (.cons rfl .nil))) (fun w h => by dsimp only; rw [← del_enc]; exact h.rea (fun _ h => h) (by repeat (first | exact Rea.nil | (apply Rea.cons; (solve | (repeat (first | exact Del.here | apply Del.there)))))))
      rcases mem_erase' hq (hl x (del_sub _ _ x hx) e) with h | h
      · rw [Prod.mk.injEq, pl_inj] at h
        obtain ⟨x1, x2⟩ := x
        obtain ⟨h1, h2⟩ := h
        subst h1
        exact absurd hx (not_del hf1)
      · exact h
    ·
      refine CW.skip ?_
      refine NQ.block ?_
      have hs : ¬ s = n := by simpa using hs
      refine NQ.round (g := (c', left)) (c', left.eraseIdx q) ⟨hc, fun x hx e => ?_⟩ hlen (.cons rfl (.cons rfl (.cons rfl .nil))) (fun w h => (h.rea (H' := [mapCt r it goodPl (enc c') (left.eraseIdx q) (pl (s, a), pr v), cel b [.int .i64 slack, .int .i64 most, .map (some r)] 100]) (fun _ h => h) (by repeat (first | exact Rea.nil | (apply Rea.cons; (solve | (repeat (first | exact Del.here | apply Del.there))))))).uncur)
      rcases mem_erase' hq (hl x hx e) with h | h
      · rw [Prod.mk.injEq, pl_inj] at h
        rw [h.1] at e
        exact absurd e hs
      · exact h
end Go.Proofs.Ytggmnhogmjglmaa
