import Derived.Test.YthgjgeapfndeeaaGreatDoorHC
set_option linter.unusedVariables false
set_option linter.unusedSimpArgs false
namespace Go.Proofs.YthgjgeapfndeeaaGreatDoor
open Go.PK

abbrev hcel (b : Nat) (s : S8) (p : Option Addr) (k cap n : Nat) : It := cel b [U32 s.a, U32 s.b, U32 s.c, U32 s.d, U32 s.e, U32 s.f, U32 s.g, U32 s.h, .slice p k cap, .int .i64 (n : Int), .bool true] 549

theorem is_yes (b : Nat) (s : S8) (p : Option Addr) (k cap n : Nat) : Spc Tryz.prog 304 #[.pointer (some ⟨b, 0, none⟩)] [hcel b s p k cap n] [] (Is (.bool true)) := by
  refine Spc.enter Tryz.func304 rfl rfl rfl (fun w0 hw0 => ?_)
  refine CW.seq (CW.rg (RL.p rfl (RL.nil (NQ.seq (CW.seq (CW.rg (RL.p rfl (RL.cmp rfl rfl rfl rfl rfl (neq_ptr Tryz.runUnderlying416 _) (RL.p rfl (RL.p rfl (RL.p rfl (RL.fieldAddr fa_549_3 rfl rfl rfl rfl (RL.loadq Tryz.isAgg4 rfl rfl rfl rfl ?_)))))))))))))
  refine RL.p rfl (RL.p rfl (RL.nil (NQ.seq (CW.ok [2] rfl (CW.ret ?_)))))
  exact RQ.post (res1 rfl rfl) (Split.none _) ⟨rfl, rfl, rfl⟩
theorem new_any : Spc Tryz.prog 206 #[] [] [] (fun v I' H' => ∃ b, v = .pointer (some ⟨b, 0, none⟩) ∧ I' = [] ∧ H' = [hcel b iv none 0 0 0]) := by
  refine Spc.enter Tryz.func206 rfl rfl rfl (fun w0 hw0 => ?_)
  refine CW.seq (CW.rg (RL.p rfl (RL.nil (NQ.seq (CW.seq (CW.region (ef := [2]) (bk := []) (RL.callvq (hfirst_any) Tryz.call303 rfl rfl rfl rfl ?_)))))))
  refine RL.buildS [_, _, _, _, _, _, _, _, _, _, _] Tryz.zeroValue549 pl_549 rfl rfl rfl rfl rfl (RL.box rfl rfl rfl rfl rfl rfl ?_)
  intro b1
  refine RL.p rfl (RL.nil (NQ.seq (CW.ret ?_)))
  exact RQ.post (res1 rfl rfl) (.keep .nil) ⟨b1, rfl, rfl, rfl⟩

end Go.Proofs.YthgjgeapfndeeaaGreatDoor

namespace Go.Proofs.YthgjgeapfndeeaaGreatDoor
open Go.PK


theorem take_bytes (l : List B8) : bytes (l.take 64) = ((bytes l).drop (0 * 1)).take (64 * 1) := by rw [bytes_part, List.drop_zero]

theorem write_any (b : Nat) (s : S8) (p q : Option Addr) (cap c2 n : Nat) (rest m : List B8) (h0 : m ≠ []) (hk : rest.length ≤ cap) (hn : rest.length ≤ n) (hb : n + m.length ≤ 1000000000) :
    Spc Tryz.prog 207 #[.pointer (some ⟨b, 0, none⟩), .slice q m.length c2] [sls p 1 rest.length (bytes rest), sls q 1 m.length (bytes m)] [hcel b s p rest.length cap n]
      (fun v I' H' => ∃ p' cap', v = .int .i64 0 ∧ I' = [sls p' 1 (absorb s (rest ++ m)).2.length (bytes (absorb s (rest ++ m)).2)] ∧ H' = [hcel b (absorb s (rest ++ m)).1 p' (absorb s (rest ++ m)).2.length cap' (n + m.length)] ∧ (absorb s (rest ++ m)).2.length ≤ cap') := by
  have hm0 : m.length ≠ 0 := fun h => h0 (List.eq_nil_of_length_eq_zero h)
  refine Spc.enter Tryz.func207 rfl rfl rfl (fun w0 hw0 => ?_)
  refine CW.seq (CW.rg (RL.p rfl (RL.nil (NQ.seq (CW.seq (CW.block (CW.seq (CW.rg (RL.p rfl (RL.callvq (is_yes b s p rest.length cap n) Tryz.call304 rfl rfl rfl rfl ?_))))))))))
  refine RL.p rfl (RL.p rfl (RL.nil (NQ.seq (CW.condF rfl (rfl) (CW.seq (CW.rg (RL.p rfl (RL.lenS Tryz.runUnderlying22 rfl rfl rfl rfl (RL.p rfl (RL.p rfl (RL.fieldAddr fa_549_2 rfl rfl rfl rfl (RL.loadq Tryz.isAgg3 rfl rfl rfl rfl ?_))))))))))))
  refine RL.bx rfl (wrapV_i64 (by omega) (by omega)) ?_
  refine RL.p rfl (RL.p rfl (RL.nil (NQ.seq (CW.ok [0, 1, 4, 9] rfl (CW.condF rfl ((by simp; omega)) ?_)))))
  refine CW.skip (NQ.block (NQ.seq (CW.seq (CW.region (ef := [9]) (bk := [9]) (RL.p rfl (RL.p rfl (RL.fieldAddr fa_549_2 rfl rfl rfl rfl (RL.loadq Tryz.isAgg3 rfl rfl rfl rfl ?_))))))))
  refine RL.p rfl (RL.lenS Tryz.runUnderlying22 rfl rfl rfl rfl (RL.bx rfl (wrapV_i64 (by omega) (by omega)) ?_))
  refine RL.p rfl (RL.fieldAddr fa_549_2 rfl rfl rfl rfl (RL.store (vs := [_]) Tryz.sizeOf3 rfl rfl rfl rfl rfl rfl rfl rfl rfl (by repeat (first | exact Upd.here | apply Upd.there)) ?_))
  refine RL.nil (NQ.seq (CW.ok [0, 1] rfl (CW.seq (CW.regionD (Sq.of [0, 1, 2, 3, 4, 5, 6, 7, 8, 9, 10, 11, 12, 13, 14, 15, 16, 17, 18, 19, 20]) [17, 20] [20] [0, 1, 2, 3, 5, 6, 7, 9, 10, 11, 12, 14, 15, 16, 18, 19] mixed (by kernel_rfl) ?_))))
  refine RL.p rfl (RL.p rfl (RL.p rfl (RL.fieldAddr fa_549_1 rfl rfl rfl rfl (RL.loadq Tryz.isAgg22 rfl rfl rfl rfl ?_))))
  refine RL.p rfl (RL.p rfl (RL.fieldAddr fa_549_1 rfl rfl rfl rfl (RL.loadq Tryz.isAgg22 rfl rfl rfl rfl ?_)))
  refine RL.lenS Tryz.runUnderlying22 rfl rfl rfl rfl (RL.p rfl (RL.p rfl (RL.fieldAddr fa_549_1 rfl rfl rfl rfl (RL.loadq Tryz.isAgg22 rfl rfl rfl rfl ?_))))
  refine RL.lenS Tryz.runUnderlying22 rfl rfl rfl rfl (RL.slice3 (hi := rest.length) Tryz.runUnderlying22 Tryz.sizeOf5 rfl rfl rfl rfl rfl rfl hk (RL.p rfl (RL.appendTold el_22 rfl rfl rfl rfl rfl rfl (Src.sls (by repeat (first | exact List.Mem.head _ | apply List.Mem.tail))) (by repeat (first | exact List.Mem.head _ | apply List.Mem.tail)) (Src.sls (by repeat (first | exact List.Mem.head _ | apply List.Mem.tail))) (by simp [maxLen]; omega) (by omega) ?_)))
  rintro p1 c1 hc1 - hf1
  refine RL.p rfl (RL.fieldAddr fa_549_1 rfl rfl rfl rfl (RL.store (vs := [_]) Tryz.sizeOf22 rfl rfl rfl rfl rfl rfl rfl rfl rfl (by repeat (first | exact Upd.here | apply Upd.there)) ?_))
  refine RL.nil (NQ.seq (CW.ok [0] rfl (CW.seq (CW.block ?_))))
  have e1 : bytes (rest ++ m) = bytes rest ++ bytes m := List.map_append
  have e2 : (rest ++ m).length = rest.length + m.length := List.length_append
  refine CW.loop (γ := S8 × List B8 × Option Addr × Nat) (fun g => absorb g.1 g.2.1 = absorb s (rest ++ m) ∧ g.2.1.length ≤ g.2.2.2 ∧ ∀ x ∈ (sls g.2.2.1 1 g.2.1.length (bytes g.2.1)).bs, w0.heap.size ≤ x) (fun _ => [(0, .pointer (some ⟨b, 0, none⟩))])
    (fun g => [sls g.2.2.1 1 g.2.1.length (bytes g.2.1)]) (fun g => [hcel b g.1 g.2.2.1 g.2.1.length g.2.2.2 (n + m.length)]) (fun g => g.2.1.length) (s, rest ++ m, p1, c1) ⟨rfl, by rw [e2]; exact hc1, by rw [e1, e2]; exact hf1 hm0⟩ (.cons rfl .nil)
    (fun _ h => by
      dsimp only
      rw [e1, e2]
      exact h.les (fun x hx => by simp at hx; simp [hx]) (Les.refl _)) ?_
  rintro ⟨s', l, pp, c⟩ ⟨hg, hl, hf⟩
  dsimp only at hg hl hf ⊢
  rw [← hg]
  clear e1 e2 hc1 hg hf1
  refine CW.seq (CW.seq (CW.rg (RL.p rfl (RL.p rfl (RL.fieldAddr fa_549_1 rfl rfl rfl rfl (RL.loadq Tryz.isAgg22 rfl rfl rfl rfl ?_))))))
  refine RL.lenS Tryz.runUnderlying22 rfl rfl rfl rfl (RL.p rfl (RL.nil (NQ.seq ?_)))
  refine CW.cond rfl (fun hge => ?_) (fun hge => ?_)
  ·
    have hge : 64 ≤ l.length := by simp at hge; omega
    refine CW.fact (p := pp ≠ none) (fun w hC e => by
      have := sls_nil (hC.s.i _ (List.Mem.head _)) e
      omega) (fun hpp => ?_)
    obtain ⟨a, rfl⟩ : ∃ a, pp = some a := by
      cases pp with
      | none => exact absurd rfl hpp
      | some a => exact ⟨a, rfl⟩
    clear hpp
    refine CW.skip (NQ.seq (CW.ok [0] rfl (CW.block (CW.seq (CW.regionD (Sq.of [0, 1, 2, 3, 4, 5, 6, 7, 8, 9, 10, 11, 12, 13]) [13] [13] [0, 1, 2, 3, 5, 6, 7, 9, 11, 12] mixed (by kernel_rfl) ?_)))))
    refine RL.p rfl (RL.p rfl (RL.p rfl (RL.fieldAddr fa_549_0 rfl rfl rfl rfl (RL.loadN (vs := [_, _, _, _, _, _, _, _]) Tryz.isAgg546 Tryz.sizeOf546 rfl rfl rfl rfl (by first | (apply Rds.cel; (solve | (repeat (first | exact List.Mem.head _ | apply List.Mem.tail))); exact at_spec ⟨rfl, rfl, rfl, rfl, rfl, rfl, rfl, rfl, trivial⟩) | (apply Rds.celI; (solve | (repeat (first | exact List.Mem.head _ | apply List.Mem.tail))); exact at_spec ⟨rfl, rfl, rfl, rfl, rfl, rfl, rfl, rfl, trivial⟩) | assumption | (apply RdsI.rds; assumption)) ?_))))
    refine RL.p rfl (RL.p rfl (RL.fieldAddr fa_549_1 rfl rfl rfl rfl (RL.loadq Tryz.isAgg22 rfl rfl rfl rfl ?_)))
    refine RL.sliceP (lo := 0) (hi := 64) Tryz.runUnderlying22 Tryz.sizeOf5 rfl rfl rfl rfl rfl rfl (by omega) (by omega) (by omega) ?_
    refine RL.callv (turned_any s' (l.take 64) (a.add (0 * 1)) (c - 0) (by simp; omega) (by omega)) Tryz.call305 rfl rfl rfl rfl (by rw [take_bytes l]; exact Lend.subI (by repeat (first | exact List.Mem.head _ | apply List.Mem.tail)) (by omega) .nil) ?_
    refine RL.p rfl (RL.fieldAddr fa_549_0 rfl rfl rfl rfl (RL.store (vs := [_, _, _, _, _, _, _, _]) Tryz.sizeOf546 rfl rfl rfl rfl rfl rfl rfl rfl rfl (by repeat (first | exact Upd.here | apply Upd.there)) ?_))
    refine RL.nil (NQ.seq (CW.ok [0] rfl (CW.region (ef := [8]) (bk := [8]) (RL.p rfl (RL.p rfl (RL.p rfl (RL.fieldAddr fa_549_1 rfl rfl rfl rfl (RL.loadq Tryz.isAgg22 rfl rfl rfl rfl ?_))))))))
    refine RL.slice (lo := 64) (hi := l.length) Tryz.runUnderlying22 Tryz.sizeOf5 rfl rfl rfl rfl rfl rfl (by omega) (by omega) ?_
    refine RL.p rfl (RL.fieldAddr fa_549_1 rfl rfl rfl rfl (RL.store (vs := [_]) Tryz.sizeOf22 rfl rfl rfl rfl rfl rfl rfl rfl rfl (by repeat (first | exact Upd.here | apply Upd.there)) ?_))
    refine RL.nil (NQ.block ?_)
    have e1 : bytes (l.drop 64) = ((bytes l).drop (64 * 1)).take ((l.length - 64) * 1) := by rw [bytes_part, List.take_of_length_le (by simp)]
    have e2 : (l.drop 64).length = l.length - 64 := List.length_drop
    have hfs : ∀ x ∈ (sls (if c = 64 then some a else (some a).map (·.add (64 * 1))) 1 (l.drop 64).length (bytes (l.drop 64))).bs, w0.heap.size ≤ x := by
      intro x hx
      exact hf x (bs_sub (by omega) x hx)
    refine NQ.round (g := (s', l, some a, c)) (comp s' (l.take 64), l.drop 64, if c = 64 then some a else (some a).map (·.add (64 * 1)), c - 64) ⟨(absorb_ge hge).symm, by show (l.drop 64).length ≤ c - 64; omega, hfs⟩ (by show (l.drop 64).length < l.length; omega) (.cons rfl .nil) (fun w h => ?_)
    dsimp only
    rw [e1, e2]
    exact (h.also (x := sls (if c = 64 then some a else (some a).map (·.add (64 * 1))) 1 (l.length - 64) (((bytes l).drop (64 * 1)).take ((l.length - 64) * 1))) (fun w hw => sls_sub (hw.i _ (List.Mem.head _)) (by omega) hl)
      (fun x hx => mem_bss.2 ⟨_, List.Mem.head _, bs_sub (xs := bytes l) (by omega) x hx⟩)).les (fun x hx => by simp at hx; simp [hx]) (Les.refl _)
  ·
    refine CW.exit (XQ.seq (XQ.seq (XQ.hit (NQ.seq (CW.ok [] rfl (CW.seq (CW.rg (RL.p rfl (RL.nil (NQ.seq (CW.ret ?_)))))))))))
    have hlt : l.length < 64 := by simp at hge; omega
    rw [absorb_lt hlt]
    exact RQ.postI (I' := [sls pp 1 l.length (bytes l)]) (res1 rfl rfl) (.keep .nil) (fun _ h => h) (by simpa [bss] using hf) ⟨pp, c, rfl, rfl, rfl, hl⟩
end Go.Proofs.YthgjgeapfndeeaaGreatDoor

namespace Go.Proofs.YthgjgeapfndeeaaGreatDoor
open Go.PK

theorem write_none (b : Nat) (s : S8) (p q : Option Addr) (k cap c2 n : Nat) (rest : List B8) (h64 : k < 64) (hk : k ≤ cap) (hb : n ≤ 1000000000) :
    Spc Tryz.prog 207 #[.pointer (some ⟨b, 0, none⟩), .slice q 0 c2] [sls p 1 k (bytes rest)] [hcel b s p k cap n]
      (fun v I' H' => v = .int .i64 0 ∧ I' = [] ∧ H' = [hcel b s p k k n]) := by
  refine Spc.enter Tryz.func207 rfl rfl rfl (fun w0 hw0 => ?_)
  refine CW.seq (CW.rg (RL.p rfl (RL.nil (NQ.seq (CW.seq (CW.block (CW.seq (CW.rg (RL.p rfl (RL.callvq (is_yes b s p k cap n) Tryz.call304 rfl rfl rfl rfl ?_))))))))))
  refine RL.p rfl (RL.p rfl (RL.nil (NQ.seq (CW.condF rfl (rfl) (CW.seq (CW.rg (RL.p rfl (RL.lenS Tryz.runUnderlying22 rfl rfl rfl rfl (RL.p rfl (RL.p rfl (RL.fieldAddr fa_549_2 rfl rfl rfl rfl (RL.loadq Tryz.isAgg3 rfl rfl rfl rfl ?_))))))))))))
  refine RL.bx rfl (wrapV_i64 (by omega) (by omega)) ?_
  refine RL.p rfl (RL.p rfl (RL.nil (NQ.seq (CW.ok [0, 1, 4, 9] rfl (CW.condF rfl ((by simp; omega)) ?_)))))
  refine CW.skip (NQ.block (NQ.seq (CW.seq (CW.region (ef := [9]) (bk := [9]) (RL.p rfl (RL.p rfl (RL.fieldAddr fa_549_2 rfl rfl rfl rfl (RL.loadq Tryz.isAgg3 rfl rfl rfl rfl ?_))))))))
  refine RL.p rfl (RL.lenS Tryz.runUnderlying22 rfl rfl rfl rfl (RL.bx rfl (wrapV_i64 (by omega) (by omega)) ?_))
  refine RL.p rfl (RL.fieldAddr fa_549_2 rfl rfl rfl rfl (RL.store (vs := [_]) Tryz.sizeOf3 rfl rfl rfl rfl rfl rfl rfl rfl rfl (by repeat (first | exact Upd.here | apply Upd.there)) ?_))
  refine RL.nil (NQ.seq (CW.ok [0, 1] rfl (CW.seq (CW.regionD (Sq.of [0, 1, 2, 3, 4, 5, 6, 7, 8, 9, 10, 11, 12, 13, 14, 15, 16, 17, 18, 19, 20]) [17, 20] [20] [0, 1, 2, 3, 5, 6, 7, 9, 10, 11, 12, 14, 15, 16, 18, 19] mixed (by kernel_rfl) ?_))))
  refine RL.p rfl (RL.p rfl (RL.p rfl (RL.fieldAddr fa_549_1 rfl rfl rfl rfl (RL.loadq Tryz.isAgg22 rfl rfl rfl rfl ?_))))
  refine RL.p rfl (RL.p rfl (RL.fieldAddr fa_549_1 rfl rfl rfl rfl (RL.loadq Tryz.isAgg22 rfl rfl rfl rfl ?_)))
  refine RL.lenS Tryz.runUnderlying22 rfl rfl rfl rfl (RL.p rfl (RL.p rfl (RL.fieldAddr fa_549_1 rfl rfl rfl rfl (RL.loadq Tryz.isAgg22 rfl rfl rfl rfl ?_))))
  refine RL.lenS Tryz.runUnderlying22 rfl rfl rfl rfl (RL.slice3 (hi := k) Tryz.runUnderlying22 Tryz.sizeOf5 rfl rfl rfl rfl rfl rfl hk (RL.p rfl (RL.append0 el_22 rfl rfl rfl rfl rfl rfl (Nat.le_refl k) (RL.p rfl (RL.fieldAddr fa_549_1 rfl rfl rfl rfl (RL.store (vs := [_]) Tryz.sizeOf22 rfl rfl rfl rfl rfl rfl rfl rfl rfl (by repeat (first | exact Upd.here | apply Upd.there)) ?_))))))
  refine RL.nil (NQ.seq (CW.ok [0] rfl (CW.seq (CW.block ?_))))
  refine CW.loop (γ := Nat) (fun _ => True) (fun _ => [(0, .pointer (some ⟨b, 0, none⟩))])
    (fun _ => [sls p 1 k (bytes rest)]) (fun _ => [hcel b s p k k n]) (fun n => n) 0 trivial (.cons rfl .nil) (fun _ h => by simpa [spl] using h) ?_
  intro _ _
  refine CW.seq (CW.seq (CW.rg (RL.p rfl (RL.p rfl (RL.fieldAddr fa_549_1 rfl rfl rfl rfl (RL.loadq Tryz.isAgg22 rfl rfl rfl rfl ?_))))))
  refine RL.lenS Tryz.runUnderlying22 rfl rfl rfl rfl (RL.p rfl (RL.nil (NQ.seq (CW.condF rfl ((by simp; omega)) ?_))))
  refine CW.exit (XQ.seq (XQ.seq (XQ.hit (NQ.seq (CW.ok [] rfl (CW.seq (CW.rg (RL.p rfl (RL.nil (NQ.seq (CW.ret ?_)))))))))))
  exact RQ.post (res1 rfl rfl) (.keep .nil) ⟨rfl, rfl, rfl⟩

section
variable {L : List Oper} {ef bk : List Nat} {tq : Tq} {Q : Exit → Act → World → Prop} {N : Fm} {E : Env} {w0 : World} {S : List Nat} {I H : List It} {i : Nat} {l : Sq}
variable {d : Nat} {ty : TypeId} {pos : String} {af : Array Edge} {g : Option (Nat × Bool)}

theorem RL.write {b : Nat} {s : S8} {p q : Option Addr} {cap c2 n : Nat} {rest m : List B8} {B : List It} {xs : Array Operand} {ats : Array TypeId} (h64 : rest.length < 64) (hk : rest.length ≤ cap) (hn : rest.length ≤ n) (hb : n + m.length ≤ 1000000000)
    (ho : nth L i = some ⟨some d, .call ⟨.value (.func 207), xs, ats⟩, ty, pos, af, g⟩) (hw : wants L E ⟨some d, .call ⟨.value (.func 207), xs, ats⟩, ty, pos, af, g⟩ = true)
    (hN : Nat.blt d N.n = true) (hi : ef.contains i = true) (hbk : bk.contains i = true) (hx : evs E xs.toList = some [.pointer (some ⟨b, 0, none⟩), .slice q m.length c2]) (hI : sls p 1 rest.length (bytes rest) ∈ I)
    (hp : Pick H [hcel b s p rest.length cap n] B) (hl : Lend I B [sls q 1 m.length (bytes m)])
    (h : ∀ p' cap', (absorb s (rest ++ m)).2.length ≤ cap' → RL Tryz.prog L ef bk tq Q l N ((d, .int .i64 0) :: E) w0 S (sls p' 1 (absorb s (rest ++ m)).2.length (bytes (absorb s (rest ++ m)).2) :: I) (hcel b (absorb s (rest ++ m)).1 p' (absorb s (rest ++ m)).2.length cap' (n + m.length) :: B)) :
    RL Tryz.prog L ef bk tq Q (.cons i l) N E w0 S I H := by
  by_cases h0 : m = []
  · subst h0
    refine RL.call (write_none b s p q rest.length cap c2 n rest h64 hk (by simpa using hb)) Tryz.call207 ho hw hN hi hx hp (.inI hI .nil) (.inr hbk) ?_
    rintro _ _ _ ⟨rfl, rfl, rfl⟩
    have := h p rest.length
    rw [List.append_nil, absorb_lt h64] at this
    exact RL.also (sls p 1 rest.length (bytes rest)) (fun w hw => hw.i _ hI) (fun c hc => mem_bss.2 ⟨_, hI, hc⟩) (this (Nat.le_refl _))
  · refine RL.call (write_any b s p q cap c2 n rest m h0 hk hn hb) Tryz.call207 ho hw hN hi hx hp (.inI hI hl) (.inr hbk) ?_
    rintro _ _ _ ⟨p', cap', rfl, rfl, rfl, hc⟩
    exact h p' cap' hc
end
end Go.Proofs.YthgjgeapfndeeaaGreatDoor

/-
  A hasher's last block or two: the bytes one by one.
-/
namespace Go.Proofs.YthgjgeapfndeeaaGreatDoor
open Go.PK

theorem u64_size (n : Nat) (h : n ≤ 1000000000) : Value.int .u64 (IntKind.u64.wrap (IntKind.u64.wrap (n : Int) * 8)) = .int .u64 ((n * 8 / 256 ^ 0 : Nat) : Int) := by
  congr 1
  simp only [IntKind.wrap, IntKind.bits, IntKind.signed]
  simp
  omega

/-- The bytes ahead of the length, of 128. -/
def pre (rest : List B8) : List Value := bytes rest ++ [U8 128#8] ++ List.replicate (127 - rest.length) (U8 0#8)
theorem pre_length {rest : List B8} (h : rest.length < 64) : (pre rest).length = 128 := by simp [pre]; omega
/-- .. with the length's last 'j' bytes, that end at 'en'. -/
def lay (rest : List B8) (n en j : Nat) : List Value := (pre rest).take (en - j) ++ bytes ((be8 (n * 8)).drop (8 - j)) ++ (pre rest).drop en
theorem lay_zero {rest : List B8} {n en : Nat} : lay rest n en 0 = pre rest := by simp [lay, be8]
theorem lay_length {rest : List B8} {n en j : Nat} (h : rest.length < 64) (hj : j ≤ 8) (h8 : 8 ≤ en) (he : en ≤ 128) : (lay rest n en j).length = 128 := by
  simp only [lay, List.length_append, List.length_take, List.length_map, List.length_drop, pre_length h, be8_length]; omega
theorem be8_cons (N : Nat) : ∀ j, j < 8 → (be8 N).drop (8 - (j + 1)) = BitVec.ofNat 8 (N / 256 ^ j) :: (be8 N).drop (8 - j)
  | 0, _ => rfl | 1, _ => rfl | 2, _ => rfl | 3, _ => rfl | 4, _ => rfl | 5, _ => rfl | 6, _ => rfl | 7, _ => rfl
  | j + 8, h => by omega
theorem lay_step {rest : List B8} {n en j : Nat} (h : rest.length < 64) (hj : j < 8) (h8 : 8 ≤ en) (he : en ≤ 128) :
    spl (lay rest n en j) (0 + (en - (j + 1)) * 1) [U8 (BitVec.ofInt 8 ((n * 8 / 256 ^ j : Nat) : Int))] = lay rest n en (j + 1) := by
  have hl := pre_length h
  rw [Nat.zero_add, Nat.mul_one, spl_one (by rw [lay_length h (by omega) h8 he]; omega)]
  have e1 : (lay rest n en j).take (en - (j + 1)) = (pre rest).take (en - (j + 1)) := by
    rw [lay, List.append_assoc, List.take_append_of_le_length (by rw [List.length_take, hl]; omega), List.take_take]
    congr 1; omega
  have e2 : (lay rest n en j).drop (en - (j + 1) + 1) = bytes ((be8 (n * 8)).drop (8 - j)) ++ (pre rest).drop en := by
    rw [lay, List.append_assoc]
    exact List.drop_left' (by rw [List.length_take, hl]; omega)
  have e3 : BitVec.ofInt 8 ((n * 8 / 256 ^ j : Nat) : Int) = BitVec.ofNat 8 (n * 8 / 256 ^ j) := BitVec.ofInt_natCast ..
  rw [e1, e2, e3, lay, be8_cons _ j hj]
  simp

theorem padEnd_le {k : Nat} : padEnd k = 64 ∨ padEnd k = 128 := by unfold padEnd; split <;> simp
theorem pad_length {rest : List B8} {n : Nat} (h : rest.length < 64) : (rest ++ padding rest.length n).length = padEnd rest.length := by
  rw [List.length_append, padding_length h]; unfold padEnd; split <;> omega
/-- The whole, as far as it is taken. -/
theorem lay_all {rest : List B8} {n : Nat} (h : rest.length < 64) : ∃ r, lay rest n (padEnd rest.length) 8 = bytes (rest ++ padding rest.length n) ++ r := by
  refine ⟨(pre rest).drop (padEnd rest.length), ?_⟩
  have e : (pre rest).take (padEnd rest.length - 8) = bytes (rest ++ 128#8 :: List.replicate (padEnd rest.length - rest.length - 9) 0#8) := by
    have h1 : padEnd rest.length - 8 = rest.length + (1 + (padEnd rest.length - rest.length - 9)) := by unfold padEnd; split <;> omega
    have h2 : padEnd rest.length - rest.length - 9 ≤ 127 - rest.length := by unfold padEnd; split <;> omega
    rw [h1, pre, List.append_assoc]
    rw [show rest.length = (bytes rest).length by simp, List.take_length_add_append]
    simp only [Nat.add_comm 1, List.cons_append, List.nil_append, List.take_succ_cons, List.take_replicate, List.map_append, List.map_cons, List.map_replicate]
    rw [show (bytes rest).length = rest.length by simp, Nat.min_eq_left h2]
  simp only [lay]
  rw [e, padding]
  simp [List.drop_zero]

theorem Lpart {rest : List B8} {n at_ : Nat} (h : rest.length < 64) (hj : at_ + 64 ≤ padEnd rest.length) : ∀ j u, (bytes (((rest ++ padding rest.length n).drop at_).take 64))[j]? = some u → (lay rest n (padEnd rest.length) 8)[at_ + j]? = some u := by
  intro j u hu
  obtain ⟨r, hr⟩ := lay_all (n := n) h
  have hl := pad_length (n := n) h
  rw [← bytes_part] at hu
  rw [List.getElem?_take] at hu
  split at hu
  · rename_i h64
    rw [List.getElem?_drop, Nat.mul_one] at hu
    rw [hr, List.getElem?_append_left (by rw [List.length_map, hl]; omega)]
    exact hu
  · cases hu

/-! ### The digest's bytes -/
theorem div4 (i : Nat) (h : i < 32) : IntKind.i64.wrap ((i : Int).tdiv 4) = ((i / 4 : Nat) : Int) := by
  have e : (i : Int).tdiv 4 = ((i / 4 : Nat) : Int) := by rw [Int.tdiv_eq_ediv_of_nonneg (by omega)]; simp
  rw [e]; exact IntWalk.i64_in _ (by omega)
theorem mod4 (i : Nat) (h : i < 32) : IntKind.i64.wrap (8 * IntKind.i64.wrap (3 - (i : Int).tmod 4)) = ((8 * (3 - i % 4) : Nat) : Int) := by
  have e : (i : Int).tmod 4 = ((i % 4 : Nat) : Int) := by rw [Int.tmod_eq_emod_of_nonneg (by omega)]; simp
  rw [e, IntWalk.i64_in (3 - ((i % 4 : Nat) : Int)) (by omega), IntWalk.i64_in _ (by omega)]; omega
theorem dig_get (s : S8) {i : Nat} (h : i < 32) : (bytes (dig s))[i]? = some (U8 (dbyte s i)) := by simp [dig, h]
end Go.Proofs.YthgjgeapfndeeaaGreatDoor

namespace Go.Proofs.YthgjgeapfndeeaaGreatDoor
open Go.PK

set_option maxHeartbeats 4000000 in
theorem sum_any (b : Nat) (s : S8) (p : Option Addr) (cap n : Nat) (rest : List B8) (h64 : rest.length < 64) (hb : n ≤ 1000000000) :
    Spc Tryz.prog 208 #[.pointer (some ⟨b, 0, none⟩)] [hcel b s p rest.length cap n, sls p 1 rest.length (bytes rest)] [] (Is (.agg (bytes (dig (fin s rest n))).toArray)) := by
  refine Spc.enter Tryz.func208 rfl rfl rfl (fun w0 hw0 => ?_)
  refine CW.seq (CW.region (ef := [0]) (bk := []) (RL.alloc Tryz.zeroValue50 rfl rfl rfl rfl rfl ?_))
  intro b1
  refine RL.nil (NQ.seq (CW.seq (CW.region (ef := [0]) (bk := []) (RL.alloc Tryz.zeroValue50 rfl rfl rfl rfl rfl ?_))))
  intro b2
  refine RL.nil (NQ.seq (CW.seq (CW.seq (CW.rg (RL.p rfl (RL.callvq (is_yes b s p rest.length cap n) Tryz.call304 rfl rfl rfl rfl ?_))))))
  refine RL.p rfl (RL.nil (NQ.seq (CW.condF rfl (rfl) (CW.skip (NQ.seq (CW.seq (CW.region (ef := [0]) (bk := []) ?_)))))))
  generalize hRR : rest ++ padding rest.length n = R
  have hR : R.length = padEnd rest.length := by rw [← hRR]; exact pad_length h64
  refine RL.makeSlice (len := 128) (zs := [U8 0#8]) Tryz.runUnderlying22 Tryz.sizeOf5 (ii := Tryz.t5) (by kernel_rfl) Tryz.zeroValue5 rfl rfl (by decide) (by decide) (by decide) (by decide) rfl rfl rfl rfl rfl rfl rfl rfl ?_
  intro bl
  rw [reps_one]
  refine RL.p rfl (RL.nil (NQ.seq (CW.seq (CW.region (ef := [5]) (bk := [5]) (RL.p rfl (RL.p rfl (RL.p rfl (RL.fieldAddr fa_549_1 rfl rfl rfl rfl (RL.loadq Tryz.isAgg22 rfl rfl rfl rfl ?_)))))))))
  refine RL.copy (news := bytes rest) Tryz.runUnderlying22 Tryz.sizeOf5 rfl rfl rfl rfl rfl rfl rfl (Src.sls (by repeat (first | exact List.Mem.head _ | apply List.Mem.tail))) (one_map one8 rest) (by repeat (first | exact Upd.here | apply Upd.there)) (by simp) ?_
  have hmin : Nat.min rest.length 128 = rest.length := Nat.min_eq_left (by omega)
  have hcp : spl (List.replicate 128 (U8 0#8)) 0 (List.take (Nat.min rest.length 128 * 1) (bytes rest)) = bytes rest ++ List.replicate (127 - rest.length + 1) (U8 0#8) := by
    rw [hmin, Nat.mul_one, List.take_of_length_le (by simp), spl_eq _ _ _ (by simp; omega)]
    simp only [List.take_zero, List.nil_append, Nat.zero_add, List.length_map, List.drop_replicate]
    rw [show 128 - rest.length = 127 - rest.length + 1 by omega]
  rw [hcp, hmin]
  clear hcp hmin
  refine RL.p rfl (RL.nil (NQ.seq (CW.ok [0, 2, 3, 4, 5] rfl (CW.seq (CW.region (ef := [3]) (bk := [3]) (RL.p rfl (RL.p rfl ?_)))))))
  have hst : spl (bytes rest ++ List.replicate (127 - rest.length + 1) (U8 0#8)) (0 + rest.length * 1) [.int .u8 128] = pre rest := by
    have := spl_snoc (z := U8 0#8) (v := U8 128#8) (k := 127 - rest.length) (bytes rest)
    rw [List.length_map] at this
    rw [Nat.zero_add, Nat.mul_one]; exact this
  refine RL.idxAt (j := rest.length) Tryz.runUnderlying22 Tryz.sizeOf5 rfl rfl rfl rfl rfl rfl (by omega) ?_
  refine RL.storeX (cs' := pre rest) (vs := [_]) hst Tryz.sizeOf5 rfl rfl rfl rfl rfl rfl rfl rfl (by repeat (first | exact Upd.here | apply Upd.there)) (by simp) ?_
  refine RL.nil (NQ.seq (CW.seq (CW.rg (RL.p rfl (RL.nil (NQ.seq (CW.seq (CW.seq (CW.rg (RL.p rfl (RL.bx rfl (wrapV_i64 (by omega) (by omega)) ?_)))))))))))
  refine RL.bx rfl (wrapV_i64 (by omega) (by omega)) ?_
  refine RL.p rfl (RL.nil (NQ.seq (CW.ok [0, 2, 3, 4, 6, 29] rfl ?_)))
  clear hst
  refine CW.cut [(0, .pointer (some ⟨b, 0, none⟩)), (2, .pointer (some ⟨b1, 0, none⟩)), (3, .pointer (some ⟨b2, 0, none⟩)), (4, .slice (some ⟨bl, 0, none⟩) 128 128), (6, .int .i64 (padEnd rest.length : Int))]
    [hcel b s p rest.length cap n, sls p 1 rest.length (bytes rest)] [cel bl (pre rest) 5, cel b2 (List.replicate 32 (U8 0#8)) 50, cel b1 (List.replicate 32 (U8 0#8)) 50] ?_ ?_
  ·
    refine CW.cond rfl (fun hc => ?_) (fun hc => ?_)
    ·
      refine CW.rg (RL.p rfl (RL.nil ?_))
      have hp : (padEnd rest.length : Int) = 128 := by simp at hc; unfold padEnd; rw [if_pos (by omega)]; rfl
      rw [hp]
      exact NQ.mid (.cons rfl (.cons rfl (.cons rfl (.cons rfl (.cons rfl .nil))))) (fun _ h => h)
    ·
      refine CW.skip ?_
      have hp : (padEnd rest.length : Int) = 64 := by simp at hc; unfold padEnd; rw [if_neg (by omega)]; rfl
      rw [hp]
      exact NQ.mid (.cons rfl (.cons rfl (.cons rfl (.cons rfl (.cons rfl .nil))))) (fun _ h => h)
  have hen : padEnd rest.length ≤ 128 ∧ 64 ≤ padEnd rest.length := by rcases padEnd_le (k := rest.length) with h | h <;> omega
  refine CW.seq (CW.seq (CW.regionD (Sq.of [0, 1, 2, 3, 4, 5, 6, 7]) [] [] [0, 1, 2, 4, 5, 6, 7] mixed (by kernel_rfl) ?_))
  refine RL.p rfl (RL.p rfl (RL.fieldAddr fa_549_2 rfl rfl rfl rfl (RL.loadq Tryz.isAgg3 rfl rfl rfl rfl ?_)))
  refine RL.conv Tryz.runUnderlying3 Tryz.runUnderlying33 rfl rfl rfl rfl (RL.binX (v' := .int .u64 ((n * 8 / 256 ^ 0 : Nat) : Int)) rfl rfl rfl rfl rfl rfl (u64_size n hb) (RL.p rfl (RL.p rfl (RL.nil (NQ.seq (CW.ok [0, 2, 3, 4, 6, 7, 8] rfl (CW.block ?_)))))))
  refine CW.loop (γ := Nat) (fun j => j ≤ 8) (fun j => [(0, .pointer (some ⟨b, 0, none⟩)), (2, .pointer (some ⟨b1, 0, none⟩)), (3, .pointer (some ⟨b2, 0, none⟩)), (4, .slice (some ⟨bl, 0, none⟩) 128 128), (6, .int .i64 (padEnd rest.length : Int)), (7, .int .i64 ((j : Int) + 1)), (8, .int .u64 ((n * 8 / 256 ^ j : Nat) : Int))])
    (fun _ => [hcel b s p rest.length cap n, sls p 1 rest.length (bytes rest)]) (fun j => [cel bl (lay rest n (padEnd rest.length) j) 5, cel b2 (List.replicate 32 (U8 0#8)) 50, cel b1 (List.replicate 32 (U8 0#8)) 50])
    (fun j => 9 - j) 0 (by omega) (.cons rfl (.cons rfl (.cons rfl (.cons rfl (.cons rfl (.cons rfl (.cons rfl .nil))))))) (fun _ h => by rw [lay_zero]; exact h) ?_
  intro j hj
  refine CW.seq (CW.seq (CW.rg (RL.p rfl (RL.p rfl (RL.nil (NQ.seq ?_))))))
  refine CW.cond rfl (fun hlt => ?_) (fun hlt => ?_)
  ·
    refine CW.skip (NQ.seq (CW.seq (CW.block (CW.seq (CW.region (ef := [7]) (bk := [7]) (RL.p rfl (RL.p rfl (RL.p rfl (RL.bx rfl (wrapV_i64 (by omega) (by omega)) ?_)))))))))
    refine RL.p rfl (RL.lowest Tryz.runUnderlying33 Tryz.runUnderlying5 rfl rfl rfl rfl ?_)
    have hlt : j < 8 := by simp at hlt; omega
    refine RL.idxAt (j := padEnd rest.length - (j + 1)) Tryz.runUnderlying22 Tryz.sizeOf5 rfl rfl rfl rfl rfl (by omega) (by omega) ?_
    refine RL.storeX (cs' := lay rest n (padEnd rest.length) (j + 1)) (vs := [_]) (lay_step h64 hlt (by omega) hen.1) Tryz.sizeOf5 rfl rfl rfl rfl rfl rfl rfl rfl (by repeat (first | exact Upd.here | apply Upd.there)) (by rw [lay_length h64 hj (by omega) hen.1]; show _ ≤ 128; simp; omega) ?_
    refine RL.nil (NQ.seq (CW.ok [0, 2, 3, 4, 6, 7, 8] rfl (CW.rg (RL.p rfl (RL.shr 8 rfl rfl rfl rfl rfl rfl (by decide) ?_)))))
    refine RL.p rfl (RL.nil (NQ.block (NQ.seq (CW.rg (RL.p rfl (RL.bx rfl (wrapV_i64 (by omega) (by omega)) ?_))))))
    refine RL.p rfl (RL.nil ?_)
    refine NQ.round (g := j) (j + 1) (by omega) (by omega) (.cons rfl (.cons rfl (.cons rfl (.cons rfl (.cons rfl (.cons rfl ?_)))))) (fun _ h => h)
    have e : (((n * 8 / 256 ^ j : Nat) : Int).fdiv (2 ^ 8)) = ((n * 8 / 256 ^ (j + 1) : Nat) : Int) := by
      rw [Int.fdiv_eq_ediv_of_nonneg _ (by decide), Nat.pow_succ, ← Nat.div_div_eq_div_mul]; simp
    rw [e]
    exact .cons rfl .nil
  ·
    have hj8 : j = 8 := by simp at hlt; omega
    subst hj8
    refine CW.exit (XQ.seq (XQ.seq (XQ.hit (NQ.seq (CW.seq (CW.region (ef := [4, 5]) (bk := [5]) (RL.p rfl (RL.p rfl (RL.fieldAddr fa_549_0 rfl rfl rfl rfl (RL.loadN (vs := [_, _, _, _, _, _, _, _]) Tryz.isAgg546 Tryz.sizeOf546 rfl rfl rfl rfl (by first | (apply Rds.cel; (solve | (repeat (first | exact List.Mem.head _ | apply List.Mem.tail))); exact at_spec ⟨rfl, rfl, rfl, rfl, rfl, rfl, rfl, rfl, trivial⟩) | (apply Rds.celI; (solve | (repeat (first | exact List.Mem.head _ | apply List.Mem.tail))); exact at_spec ⟨rfl, rfl, rfl, rfl, rfl, rfl, rfl, rfl, trivial⟩) | assumption | (apply RdsI.rds; assumption)) ?_))))))))))
    refine RL.alloc Tryz.zeroValue546 rfl rfl rfl rfl rfl ?_
    intro b3
    refine RL.store (vs := [_, _, _, _, _, _, _, _]) Tryz.sizeOf546 rfl rfl rfl rfl rfl rfl rfl rfl rfl (by repeat (first | exact Upd.here | apply Upd.there)) ?_
    refine RL.nil (NQ.seq (CW.ok [2, 3, 4, 6, 9] rfl (CW.seq (CW.seq (CW.rg (RL.p rfl (RL.nil (NQ.seq (CW.block ?_)))))))))
    refine CW.loop (γ := S8 × Nat) (fun g => absorb g.1 (R.drop g.2) = absorb s R ∧ g.2 % 64 = 0 ∧ g.2 ≤ padEnd rest.length) (fun g => [(2, .pointer (some ⟨b1, 0, none⟩)), (3, .pointer (some ⟨b2, 0, none⟩)), (4, .slice (some ⟨bl, 0, none⟩) 128 128), (6, .int .i64 (padEnd rest.length : Int)), (9, .pointer (some ⟨b3, 0, none⟩)), (10, .int .i64 (g.2 : Int))])
      (fun _ => []) (fun g => [cel b3 g.1.cells 546, cel bl (lay rest n (padEnd rest.length) 8) 5, cel b2 (List.replicate 32 (U8 0#8)) 50, cel b1 (List.replicate 32 (U8 0#8)) 50])
      (fun g => padEnd rest.length - g.2) (s, 0) ⟨rfl, rfl, by omega⟩ (.cons rfl (.cons rfl (.cons rfl (.cons rfl (.cons rfl (.cons rfl .nil)))))) (fun _ h => h.les (fun x hx => by cases hx) (Les.refl _)) ?_
    rintro ⟨st, a⟩ ⟨h1, h2, h3⟩
    dsimp only at h1 h2 h3 ⊢
    have h64or := padEnd_le (k := rest.length)
    clear hlt hj
    refine CW.seq (CW.seq (CW.rg (RL.p rfl (RL.p rfl (RL.p rfl (RL.nil (NQ.seq ?_)))))))
    refine CW.cond rfl (fun hlt => ?_) (fun hlt => ?_)
    ·
      have hlt : a < padEnd rest.length := by simp at hlt; omega
      have hle : a + 64 ≤ padEnd rest.length := by omega
      refine CW.skip (NQ.seq (CW.seq (CW.block (CW.regionD (Sq.of [0, 1, 2, 3, 4, 5, 6, 7]) [7] [7] [1, 2, 3, 4, 5] mixed (by kernel_rfl) ?_))))
      refine RL.loadN (vs := [_, _, _, _, _, _, _, _]) Tryz.isAgg546 Tryz.sizeOf546 rfl rfl rfl rfl (by first | (apply Rds.cel; (solve | (repeat (first | exact List.Mem.head _ | apply List.Mem.tail))); exact at_spec ⟨rfl, rfl, rfl, rfl, rfl, rfl, rfl, rfl, trivial⟩) | (apply Rds.celI; (solve | (repeat (first | exact List.Mem.head _ | apply List.Mem.tail))); exact at_spec ⟨rfl, rfl, rfl, rfl, rfl, rfl, rfl, rfl, trivial⟩) | assumption | (apply RdsI.rds; assumption)) ?_
      refine RL.p rfl (RL.p rfl (RL.p rfl (RL.bx rfl (wrapV_i64 (by omega) (by omega)) ?_)))
      refine RL.sliceP (lo := a) (hi := a + 64) Tryz.runUnderlying22 Tryz.sizeOf5 rfl rfl rfl rfl rfl rfl (by omega) (by omega) (by omega) ?_
      rw [add_none, Nat.add_sub_cancel_left]
      refine RL.callv (turned_any st ((R.drop a).take 64) ⟨bl, 0 + a * 1, none⟩ (128 - a) (by rw [List.length_take, List.length_drop]; omega) (by omega)) Tryz.call305 rfl rfl rfl rfl (Lend.cel (off := 0 + a * 1) (by repeat (first | exact List.Mem.head _ | apply List.Mem.tail)) (by rw [List.length_map, List.length_take, List.length_drop]; omega) (fun j u hu => by rw [Nat.zero_add, Nat.mul_one]; subst hRR; exact Lpart h64 hle j u hu) .nil) ?_
      refine RL.store (vs := [_, _, _, _, _, _, _, _]) Tryz.sizeOf546 rfl rfl rfl rfl rfl rfl rfl rfl rfl (by repeat (first | exact Upd.here | apply Upd.there)) ?_
      refine RL.nil (NQ.block (NQ.seq (CW.ok [2, 3, 4, 6, 9, 10] rfl (CW.rg (RL.p rfl (RL.bx rfl (wrapV_i64 (by omega) (by omega)) ?_))))))
      refine RL.p rfl (RL.nil ?_)
      have hge : 64 ≤ (R.drop a).length := by rw [List.length_drop]; omega
      exact NQ.round (g := (st, a)) (comp st ((R.drop a).take 64), a + 64) ⟨by rw [← h1, absorb_ge hge, List.drop_drop], by show (a + 64) % 64 = 0; omega, hle⟩ (by show padEnd rest.length - (a + 64) < padEnd rest.length - a; omega) (.cons rfl (.cons rfl (.cons rfl (.cons rfl (.cons rfl (.cons rfl .nil)))))) (fun _ h => h)
    ·
      have hae : a = padEnd rest.length := by simp at hlt; omega
      have hS : st = fin s rest n := by
        rw [fin, hRR, ← h1, hae, ← hR, List.drop_length, absorb_lt (by simp)]
      subst hS
      generalize fin s rest n = X
      refine CW.exit (XQ.seq (XQ.seq (XQ.hit (NQ.seq (CW.ok [2, 3, 9] rfl (CW.seq (CW.seq (CW.rg (RL.p rfl (RL.nil (NQ.seq (CW.block ?_))))))))))))
      refine CW.loop (γ := Nat) (fun j => j ≤ 32) (fun j => [(2, .pointer (some ⟨b1, 0, none⟩)), (3, .pointer (some ⟨b2, 0, none⟩)), (9, .pointer (some ⟨b3, 0, none⟩)), (65, .int .i64 (j : Int))])
        (fun _ => []) (fun j => [cel b3 X.cells 546, cel b2 ((bytes (dig X)).take j ++ (List.replicate 32 (U8 0#8)).drop j) 50, cel b1 (List.replicate 32 (U8 0#8)) 50])
        (fun j => 32 - j) 0 (by omega) (.cons rfl (.cons rfl (.cons rfl (.cons rfl .nil)))) (fun _ h => h.rea (fun _ h => h) (by repeat (first | exact Rea.nil | (apply Rea.cons; (solve | (repeat (first | exact Del.here | apply Del.there))))))) ?_
      clear hlt
      intro j hj
      refine CW.seq (CW.rg (RL.p rfl (RL.nil (NQ.seq (CW.seq ?_)))))
      refine CW.cond rfl (fun hlt => ?_) (fun hlt => ?_)
      ·
        refine CW.skip (NQ.seq (CW.seq (CW.block (CW.seq (CW.rg (RL.p rfl (RL.p rfl (RL.nil (NQ.seq (CW.region (ef := [12]) (bk := [12]) (RL.p rfl (RL.p rfl (RL.quo rfl rfl rfl rfl rfl (by decide) ?_)))))))))))))
        have hlt : j < 32 := by simp at hlt; omega
        have g1 : X.cells[0 + j / 4 * 1]? = some (U32 (sget X (j / 4))) := by rw [Nat.zero_add, Nat.mul_one, sget_cells X _ (by omega)]
        refine RL.idxAAt (j := j / 4) Tryz.runUnderlying546 Tryz.sizeOf90 rfl rfl rfl rfl rfl (div4 j hlt) (by omega) ?_
        refine RL.loadq Tryz.isAgg90 rfl rfl rfl rfl ?_
        refine RL.p rfl (RL.rem rfl rfl rfl rfl rfl (by decide) ?_)
        refine RL.p rfl (RL.p rfl (RL.shr32 (8 * (3 - j % 4)) rfl rfl rfl rfl rfl (mod4 j hlt) (by omega) ?_))
        refine RL.narrow Tryz.runUnderlying90 Tryz.runUnderlying5 rfl rfl rfl rfl (RL.idxAAt (j := j) Tryz.runUnderlying50 Tryz.sizeOf5 rfl rfl rfl rfl rfl rfl (by omega) ?_)
        refine RL.storeX (cs' := (bytes (dig X)).take (j + 1) ++ (List.replicate 32 (U8 0#8)).drop (j + 1)) (vs := [_]) (spl_mix (by simp [dig_length]) (dig_get X hlt)) Tryz.sizeOf5 rfl rfl rfl rfl rfl rfl rfl rfl (by repeat (first | exact Upd.here | apply Upd.there)) (by simp [dig_length]; omega) ?_
        refine RL.nil (NQ.block (NQ.seq (CW.ok [2, 3, 9, 65] rfl (CW.rg (RL.bx rfl (wrapV_i64 (by omega) (by omega)) ?_)))))
        refine RL.p rfl (RL.nil ?_)
        exact NQ.round (g := j) (j + 1) (by omega) (by omega) (.cons rfl (.cons rfl (.cons rfl (.cons rfl .nil)))) (fun _ h => h)
      ·
        have hj32 : j = 32 := by simp at hlt; omega
        subst hj32
        have hfull : (bytes (dig X)).take 32 ++ (List.replicate 32 (U8 0#8)).drop 32 = bytes (dig X) := by
          rw [List.take_of_length_le (by simp [dig_length])]; simp
        rw [hfull]
        refine CW.exit (XQ.seq (XQ.seq (XQ.hit (NQ.seq (CW.seq (CW.region (ef := [1]) (bk := [1]) (RL.loadN (vs := bytes (dig X)) Tryz.isAgg50 (by rw [List.length_map, dig_length]; exact Tryz.sizeOf50) rfl rfl rfl rfl (Rds.all (by repeat (first | exact List.Mem.head _ | apply List.Mem.tail))) ?_)))))))
        refine RL.storeX (cs := List.replicate 32 (U8 0#8)) (cs' := bytes (dig X)) (vs := bytes (dig X)) (spl_all (by simp [dig_length])) (by rw [List.length_map, dig_length]; exact Tryz.sizeOf50) rfl rfl rfl rfl rfl rfl rfl (ones_map one8 _) (by repeat (first | exact Upd.here | apply Upd.there)) (by simp [dig_length]) ?_
        refine RL.nil (NQ.seq (CW.ret ?_))
        exact RQ.post (resC rfl rfl Tryz.isAgg50 (vs := bytes (dig X)) (by rw [List.length_map, dig_length]; exact Tryz.sizeOf50) (Rds.all (by repeat (first | exact List.Mem.head _ | apply List.Mem.tail)))) (Split.none _) ⟨rfl, rfl, rfl⟩
end Go.Proofs.YthgjgeapfndeeaaGreatDoor

namespace Go.Proofs.YthgjgeapfndeeaaGreatDoor
open Go.PK

structure Part where
  p : Option Addr
  c : Nat
  m : List B8
abbrev Part.v (x : Part) : Value := .slice x.p x.m.length x.c
abbrev Part.i (x : Part) : It := sls x.p 1 x.m.length (bytes x.m)
def joined (ps : List Part) : List B8 := ps.flatMap (·.m)

theorem joined_succ {ps : List Part} {i : Nat} (h : i < ps.length) : joined (ps.take (i + 1)) = joined (ps.take i) ++ ps[i].m := by
  rw [joined, joined, List.take_succ_eq_append_getElem h, List.flatMap_append]; simp
theorem joined_le (ps : List Part) (i : Nat) : (joined (ps.take i)).length ≤ (joined ps).length := by
  have : joined ps = joined (ps.take i) ++ joined (ps.drop i) := by rw [joined, joined, joined, ← List.flatMap_append, List.take_append_drop]
  rw [this, List.length_append]; omega

set_option maxHeartbeats 1000000 in
theorem of_any (pp : Option Addr) (cap : Nat) (ps : List Part) (hn : ps.length ≤ 1000000000) (hb : (joined ps).length ≤ 1000000000) :
    Spc Tryz.prog 114 #[.slice pp ps.length cap] (sls pp 1 ps.length (ps.map Part.v) :: ps.map Part.i) [] (Is (.agg (bytes (sha (joined ps))).toArray)) := by
  generalize hBase : sls pp 1 ps.length (ps.map Part.v) :: ps.map Part.i = Base
  refine Spc.enter Tryz.func114 rfl rfl rfl (fun w0 hw0 => ?_)
  refine CW.seq (CW.region (ef := [0]) (bk := []) (RL.alloc Tryz.zeroValue50 rfl rfl rfl rfl rfl ?_))
  intro b1
  refine RL.nil (NQ.seq (CW.seq (CW.region (ef := [0]) (bk := []) (RL.callq (new_any) Tryz.call206 rfl rfl rfl rfl rfl (.inl rfl) ?_))))
  rintro _ _ _ ⟨b, rfl, rfl, rfl⟩
  refine RL.p rfl (RL.nil (NQ.seq (CW.seq (CW.seq (CW.rg (RL.p rfl (RL.lenS Tryz.runUnderlying397 rfl rfl rfl rfl (RL.p rfl (RL.nil (NQ.seq (CW.block ?_)))))))))))
  refine CW.loop (γ := Nat × Option Addr × Nat) (fun g => g.1 ≤ ps.length ∧ (after (joined (ps.take g.1))).2.length ≤ g.2.2)
    (fun g => [(2, .pointer (some ⟨b1, 0, none⟩)), (3, .pointer (some ⟨b, 0, none⟩)), (7, .slice pp ps.length cap), (8, .int .i64 (ps.length : Int)), (9, .int .i64 (g.1 : Int))])
    (fun g => sls g.2.1 1 (after (joined (ps.take g.1))).2.length (bytes (after (joined (ps.take g.1))).2) :: Base)
    (fun g => [hcel b (after (joined (ps.take g.1))).1 g.2.1 (after (joined (ps.take g.1))).2.length g.2.2 (joined (ps.take g.1)).length, cel b1 (List.replicate 32 (U8 0#8)) 50])
    (fun g => ps.length - g.1) (0, none, 0) ⟨by omega, by simp [joined, after_nil]⟩ (.cons rfl (.cons rfl (.cons rfl (.cons rfl (.cons rfl .nil)))))
    (fun w h => by
      have e : after (joined (ps.take 0)) = (iv, []) := by simp [joined, after_nil]
      dsimp only
      rw [e]
      exact h.also (x := sls none 1 0 []) (fun _ _ => ⟨rfl, rfl⟩) (fun c hc => by simp [sls] at hc)) ?_
  rintro ⟨i, p', c'⟩ ⟨hi, hc⟩
  dsimp only at hi hc ⊢
  have hr := after_rest (joined (ps.take i))
  refine CW.seq (CW.rg (RL.p rfl (RL.nil (NQ.seq (CW.seq ?_)))))
  refine CW.cond rfl (fun hlt => ?_) (fun hlt => ?_)
  ·
    have hlt : i < ps.length := by simp at hlt; omega
    have hmem : sls pp 1 ps.length (ps.map Part.v) ∈ Base := by rw [← hBase]; exact List.Mem.head _
    have hmi : (ps[i]).i ∈ Base := by rw [← hBase]; exact List.mem_cons_of_mem _ (List.mem_map_of_mem (List.getElem_mem _))
    refine CW.fact (p := pp ≠ none) (fun w hC e => by
      have := sls_nil (hC.s.i _ (List.mem_cons_of_mem _ hmem)) e
      omega) (fun hpp => ?_)
    obtain ⟨a, rfl⟩ : ∃ a, pp = some a := by
      cases pp with
      | none => exact absurd rfl hpp
      | some a => exact ⟨a, rfl⟩
    have hv : (ps.map Part.v)[i * 1]? = some (ps[i]).v := by simp [hlt]
    refine CW.skip (NQ.seq (CW.seq (CW.block (CW.seq (CW.rg (RL.idx (j := i) Tryz.runUnderlying397 Tryz.sizeOf22 rfl rfl rfl rfl rfl rfl hlt (RL.load Tryz.isAgg22 rfl rfl rfl rfl (Rd.getS (List.mem_cons_of_mem _ hmem) hv) (RL.p rfl (RL.nil (NQ.seq (CW.region (ef := [2]) (bk := [2]) (RL.p rfl (RL.p rfl ?_)))))))))))))
    have hj := joined_succ hlt
    have hle := joined_le ps (i + 1)
    rw [hj, List.length_append] at hle
    refine RL.write (p := p') (q := ps[i].p) (c2 := ps[i].c) (m := ps[i].m) hr.1 hc hr.2.1 (by omega) rfl rfl rfl rfl rfl rfl (List.Mem.head _) (by repeat (first | exact Pick.nil | apply Pick.take | apply Pick.leave)) (.inI (List.mem_cons_of_mem _ hmi) .nil) ?_
    intro p2 c2 hc2
    rw [after_append, ← hj] at hc2 ⊢
    refine RL.nil (NQ.block (NQ.seq (CW.ok [2, 3, 7, 8, 9] rfl (CW.rg (RL.bx rfl (wrapV_i64 (by omega) (by omega)) ?_)))))
    refine RL.p rfl (RL.nil ?_)
    refine NQ.round (g := (i, p', c')) (i + 1, p2, c2) ⟨hlt, hc2⟩ (by show ps.length - (i + 1) < ps.length - i; omega) (.cons rfl (.cons rfl (.cons rfl (.cons rfl (.cons rfl .nil))))) (fun w h => ?_)
    dsimp only
    rw [show (joined (ps.take (i + 1))).length = (joined (ps.take i)).length + ps[i].m.length by rw [hj, List.length_append]]
    exact h.les (fun x hx => by
      rcases List.mem_cons.1 hx with rfl | hx
      · exact List.Mem.head _
      · exact List.mem_cons_of_mem _ (List.mem_cons_of_mem _ hx)) (Les.refl _)
  ·
    have hil : i = ps.length := by simp at hlt; omega
    subst hil
    rw [List.take_length] at hr hc ⊢
    refine CW.exit (XQ.seq (XQ.seq (XQ.hit (NQ.seq (CW.seq (CW.region (ef := [2]) (bk := [2]) (RL.p rfl (RL.callvq (sum_any b (after (joined ps)).1 p' c' (joined ps).length (after (joined ps)).2 hr.1 hb) Tryz.call208 rfl rfl rfl rfl ?_))))))))
    refine RL.storeX (cs := List.replicate 32 (U8 0#8)) (cs' := bytes (sha (joined ps))) (vs := bytes (sha (joined ps))) (spl_all (by simp [sha_length])) (by rw [List.length_map, sha_length]; exact Tryz.sizeOf50) rfl rfl rfl rfl rfl rfl rfl (ones_map one8 _) (by repeat (first | exact Upd.here | apply Upd.there)) (by simp [sha_length]) ?_
    refine RL.nil (NQ.seq (CW.ok [2] rfl (CW.ret ?_)))
    exact RQ.post (resC rfl rfl Tryz.isAgg50 (vs := bytes (sha (joined ps))) (by rw [List.length_map, sha_length]; exact Tryz.sizeOf50) (Rds.all (by repeat (first | exact List.Mem.head _ | apply List.Mem.tail)))) (Split.none _) ⟨rfl, rfl, rfl⟩
end Go.Proofs.YthgjgeapfndeeaaGreatDoor
