import Derived.Test.YtbdnebedmdoehaaT1
import Derived.Test.YtbdnebedmdoehaaRNum36
import Derived.Test.YtbdnebedmdoehaaOwnN
namespace Go.Proofs.Ytbdnebedmdoehaa
open Go.PK

theorem Lend.celI {I F J : List It} {b sz nn : Nat} {cs : List Value} {T : TypeId} (hm : cel b cs T ∈ I) (hl : cs.length = nn * sz) (h : Lend I F J) : Lend I F (sls (some ⟨b, 0, none⟩) sz nn cs :: J) :=
  .of (fun w hw => cel_sls (hw.i _ hm) hl (fun j u hj => by rw [Nat.zero_add]; exact hj)) (fun c hc => .inl (mem_bss.2 ⟨_, hm, by simp [sls, cel] at hc ⊢; exact hc.2⟩)) h
theorem num_i (a : Int) (ha : 0 ≤ a) (n : Nat) (h0 : 0 < n) (hn : n ≤ 8) : Spc Try.prog 61 #[.int .i64 a, .int .i64 (n : Int)] [] [] (OwnM n (beN n a.toNat)) := by
  have h := num_any a.toNat n h0 hn
  rwa [Int.toNat_of_nonneg ha] at h
/-- What 'Next' tells. -/
def nextV (h : List B8) (x : Ent) : Value := .tuple #[.agg (bytes (if x.ok then nextD h x else zeros)).toArray, .int .i64 (if x.ok then 0 else 2)]
theorem next_yes {h : List B8} {x : Ent} (hx : x.ok = true) : nextV h x = .tuple #[.agg (bytes (nextD h x)).toArray, .int .i64 0] := by unfold nextV; rw [if_pos hx, if_pos hx]
theorem next_no {h : List B8} {x : Ent} (hx : x.ok = false) : nextV h x = .tuple #[.agg (bytes zeros).toArray, .int .i64 2] := by unfold nextV; rw [if_neg (by simp [hx]), if_neg (by simp [hx])]
theorem lenB (l : List B8) : (bytes l).length = l.length * 1 := by simp
theorem zeros32 : zeros.length = 32 := rfl
theorem of_n (pp : Option Addr) (n cap : Nat) (ps : List Part) (l : List B8) (hn : ps.length = n) (hj : joined ps = l) (h1 : n ≤ 1000000000) (hb : l.length ≤ 1000000000) (vs : List Value) (hv : ps.map Part.v = vs) :
    Spc Try.prog 60 #[.slice pp n cap] (sls pp 1 n vs :: ps.map Part.i) [] (Is (.agg (bytes (sha l)).toArray)) := by
  subst hn; subst hj; subst hv
  exact of_any pp cap ps h1 hb
theorem next_any (h : List B8) (hl : h.length = 32) (x : Ent) : Spc Try.prog 29 #[.agg (bytes h).toArray, .agg x.cells.toArray] [] [] (Is (nextV h x)) := by
  refine Spc.enter Try.func29 rfl rfl rfl (fun w0 hw0 => ?_)
  refine CW.seq (CW.region (ef := [0, 1, 2]) (bk := []) (RL.box rfl rfl rfl rfl rfl rfl ?_))
  intro b1
  refine RL.box rfl rfl rfl rfl rfl rfl ?_
  intro b2
  refine RL.alloc (cs := List.replicate 32 (U8 0#8)) Try.zeroValue78 rfl rfl rfl rfl rfl ?_
  intro b3
  refine RL.p rfl (RL.nil (NQ.seq (CW.seq (CW.seq (CW.freezeP (A := [_, _]) (B := [_]) (.leave (.take (.take .nil))) rfl ?_)))))
  simp only [List.cons_append, List.nil_append]
  refine CW.rg ?_
  first | refine RL.loadW Try.isAgg83 Try.sizeOf83 rfl rfl rfl rfl (by (solve | (repeat (first | exact List.Mem.head _ | apply List.Mem.tail)))) (by first | rfl | assumption | (simp only [List.length_map]; assumption) | (simp only [List.length_map, List.length_replicate, nextD_length, zeros32]; done) | (simp; done)) ?_ | refine RL.loadWI Try.isAgg83 Try.sizeOf83 rfl rfl rfl rfl (by (solve | (repeat (first | exact List.Mem.head _ | apply List.Mem.tail)))) (by first | rfl | assumption | (simp only [List.length_map]; assumption) | (simp only [List.length_map, List.length_replicate, nextD_length, zeros32]; done) | (simp; done)) ?_
  refine RL.callvq (right_any x) Try.call59 rfl rfl rfl rfl ?_
  refine RL.p rfl (RL.nil (NQ.seq ?_))
  refine CW.cond rfl (fun hx => ?_) (fun hx => ?_)
  ·
    refine CW.seq (CW.region (ef := [1]) (bk := [1]) (RL.buildA (List.replicate 32 (U8 0#8)) Try.zeroValue78 Try.runUnderlying78 Try.sizeOf5 rfl rfl rfl rfl rfl (RL.storeWq Try.sizeOf78 rfl rfl rfl rfl rfl rfl rfl ?_)))
    refine RL.p rfl (RL.nil (NQ.seq (CW.ok [2, 3, 4, 5] rfl (CW.ret (RQ.seq ?_)))))
    have hx : x.ok = false := by simpa using hx
    rw [next_no hx]
    exact RQ.post (resWT rfl rfl rfl Try.isAgg78 Try.sizeOf78 (by repeat (first | exact List.Mem.head _ | apply List.Mem.tail)) rfl) (Split.none _) ⟨rfl, rfl, rfl⟩
  ·
    have hx : x.ok = true := by simpa using hx
    obtain ⟨h1, h2, h3, h4⟩ := Ent.ok_iff.1 hx
    rw [next_yes hx]
    refine CW.skip (NQ.seq (CW.ok [2, 3, 4] rfl (CW.seq (CW.regionD (Sq.of [0, 1, 2, 4, 5, 7, 8, 10, 11, 3, 6, 9, 12, 13, 14, 15, 16]) [3, 6, 9, 12, 13, 14, 15] [15] [0, 1, 2, 4, 5, 7, 8, 10, 11, 16] mixed (by kernel_rfl) ?_))))
    refine RL.sliceAll Try.runUnderlying78 Try.sizeOf5 (by decide) rfl rfl rfl rfl ?_
    refine RL.fieldAddr fa_83_0 rfl rfl rfl rfl (RL.loadTq Try.isAgg3 rfl rfl rfl rfl ?_)
    refine RL.fieldAddr fa_83_1 rfl rfl rfl rfl (RL.loadTq Try.isAgg3 rfl rfl rfl rfl ?_)
    refine RL.fieldAddr fa_83_2 rfl rfl rfl rfl (RL.loadTq Try.isAgg3 rfl rfl rfl rfl ?_)
    refine RL.fieldAddr fa_83_3 rfl rfl rfl rfl (RL.loadTq Try.isAgg3 rfl rfl rfl rfl ?_)
    refine RL.callq (num_i x.t h1.1 8 (by decide) (by decide)) Try.call61 rfl rfl rfl rfl rfl (.inl rfl) ?_
    rintro _ _ _ ⟨n1, rfl, rfl, rfl⟩
    refine RL.callq (num_i x.k h2.1 2 (by decide) (by decide)) Try.call61 rfl rfl rfl rfl rfl (.inl rfl) ?_
    rintro _ _ _ ⟨n2, rfl, rfl, rfl⟩
    refine RL.callq (num_i x.s h3.1 2 (by decide) (by decide)) Try.call61 rfl rfl rfl rfl rfl (.inl rfl) ?_
    rintro _ _ _ ⟨n3, rfl, rfl, rfl⟩
    refine RL.callq (num_i x.e h4.1 2 (by decide) (by decide)) Try.call61 rfl rfl rfl rfl rfl (.inl rfl) ?_
    rintro _ _ _ ⟨n4, rfl, rfl, rfl⟩
    refine RL.buildSlice [_, _, _, _, _] Try.runUnderlying212 Try.sizeOf137 Try.zeroValue137 rfl rfl (by decide) (by decide) rfl rfl rfl rfl rfl rfl ?_
    intro b4
    refine RL.callv (of_n (some ⟨b4, 0, none⟩) 5 5 [⟨some ⟨b1, 0, none⟩, 32, h⟩, ⟨some ⟨n1, 0, none⟩, 8, beN 8 x.t.toNat⟩, ⟨some ⟨n2, 0, none⟩, 2, beN 2 x.k.toNat⟩, ⟨some ⟨n3, 0, none⟩, 2, beN 2 x.s.toNat⟩, ⟨some ⟨n4, 0, none⟩, 2, beN 2 x.e.toNat⟩] (h ++ x.be) rfl (by simp [joined, Ent.be]) (by decide) (by rw [List.length_append, hl, Ent.be_length]; decide) [.slice (some ⟨b1, 0, none⟩) 32 32, .slice (some ⟨n1, 0, none⟩) 8 8, .slice (some ⟨n2, 0, none⟩) 2 2, .slice (some ⟨n3, 0, none⟩) 2 2, .slice (some ⟨n4, 0, none⟩) 2 2] (by simp only [List.map_cons, List.map_nil, Part.v, hl, beN_length])) Try.call60 rfl rfl rfl rfl (Lend.all (by repeat (first | exact List.Mem.head _ | apply List.Mem.tail)) rfl (Lend.celI (by repeat (first | exact List.Mem.head _ | apply List.Mem.tail)) (lenB _) (Lend.all (by repeat (first | exact List.Mem.head _ | apply List.Mem.tail)) (lenB _) (Lend.all (by repeat (first | exact List.Mem.head _ | apply List.Mem.tail)) (lenB _) (Lend.all (by repeat (first | exact List.Mem.head _ | apply List.Mem.tail)) (lenB _) (Lend.all (by repeat (first | exact List.Mem.head _ | apply List.Mem.tail)) (lenB _) .nil)))))) ?_
    refine RL.storeWq Try.sizeOf78 rfl rfl rfl rfl rfl rfl rfl ?_
    refine RL.p rfl (RL.nil (NQ.seq (CW.ok [4, 5] rfl (CW.ret ?_))))
    exact RQ.post (resWT rfl rfl rfl Try.isAgg78 Try.sizeOf78 (by repeat (first | exact List.Mem.head _ | apply List.Mem.tail)) (by rw [List.length_map, nextD_length])) (Split.none _) ⟨rfl, rfl, rfl⟩

theorem two_any (n : Int) : Spc Try.prog 56 #[.int .i64 n] [] [] (Is (.bool (twoB n))) := by
  refine Spc.enter Try.func56 rfl rfl rfl (fun w0 hw0 => ?_)
  refine CW.seq (CW.rg (RL.p rfl (RL.nil (NQ.seq (CW.seq (CW.rg (RL.p rfl (RL.p rfl (RL.p rfl ?_)))))))))
  apply RL.andB (d := 5) (dp := 8) (l' := (Sq.of [6])) rfl (sK [2] rfl)
  ·
    intro hb3 K3
    refine RL.p rfl (RL.p rfl (RL.p rfl ?_))
    exact K3 _ (.cons rfl (sK [2] rfl))
  ·
    intro hb3 K3
    refine RL.p rfl (RL.p rfl (RL.p rfl ?_))
    exact K3 _ (.cons rfl (sK [2] rfl))
  refine RL.p rfl (RL.nil (NQ.seq (CW.ret ?_)))
  exact RQ.post (res1 rfl rfl) (Split.none _) ⟨rfl, rfl, rfl⟩
theorem rnum36 (a : Int) (h0 : 0 ≤ a) (hb : a ≤ 1099511627776) (n : Nat) (hn : n ≤ 8) : Spc Try.prog 57 #[.int .u64 (IntKind.u64.wrap a), .int .i64 (n : Int)] [] [] (OwnN n (beN n a.toNat)) := by
  have e : IntKind.u64.wrap a = (a.toNat : Int) := by
    rw [show IntKind.u64.wrap a = a by simp [IntKind.wrap, IntKind.bits, IntKind.signed]; omega, Int.toNat_of_nonneg h0]
  rw [e]
  exact OwnB.n (beN_length _ _) (num36 a.toNat n (by omega) hn)
attribute [local irreducible] beN
theorem rnext_any (h : List B8) (hl : h.length = 32) (x : Ent) : Spc Try.prog 28 #[.agg (bytes h).toArray, .agg x.cells.toArray] [] [] (Is (nextV h x)) := by
  refine Spc.enter Try.func28 rfl rfl rfl (fun w0 hw0 => ?_)
  refine CW.seq (CW.region (ef := [0, 1, 2]) (bk := []) (RL.box rfl rfl rfl rfl rfl rfl ?_))
  intro b1
  refine RL.box rfl rfl rfl rfl rfl rfl ?_
  intro b2
  refine RL.alloc (cs := List.replicate 32 (U8 0#8)) Try.zeroValue78 rfl rfl rfl rfl rfl ?_
  intro b3
  refine RL.p rfl (RL.nil (NQ.seq (CW.seq (CW.seq (CW.freezeP (A := [_, _]) (B := [_]) (.leave (.take (.take .nil))) rfl ?_)))))
  simp only [List.cons_append, List.nil_append]
  refine CW.rg (RL.fieldAddr fa_87_0 rfl rfl rfl rfl (RL.loadq Try.isAgg3 rfl rfl rfl rfl ?_))
  refine RL.p rfl (RL.p rfl ?_)
  apply RL.orB (d := 10) (dp := 14) (l' := (Sq.of [8, 9, 10, 11, 12, 13, 14, 15, 16, 17, 18, 19, 20, 21, 22, 23, 24, 25])) rfl (sK [2, 3, 4, 5] rfl)
  ·
    intro hb4 K4
    refine RL.fieldAddr fa_87_0 rfl rfl rfl rfl (RL.loadq Try.isAgg3 rfl rfl rfl rfl ?_)
    refine RL.p rfl (RL.p rfl ?_)
    exact K4 _ (.cons rfl (sK [2, 3, 4, 5] rfl))
  ·
    intro hb4 K4
    refine RL.p rfl (RL.p rfl (RL.p rfl (RL.p rfl ?_)))
    exact K4 _ (.cons rfl (sK [2, 3, 4, 5] rfl))
  refine RL.p rfl ?_
  apply RL.orB (d := 15) (dp := 20) (l' := (Sq.of [14, 15, 16, 17, 18, 19, 20, 21, 22, 23, 24, 25])) rfl (sK [2, 3, 4, 5] rfl)
  ·
    intro hb9 K9
    refine RL.fieldAddr fa_87_1 rfl rfl rfl rfl (RL.loadq Try.isAgg3 rfl rfl rfl rfl ?_)
    refine RL.callvq (two_any x.k) Try.call56 rfl rfl rfl rfl ?_
    refine RL.p rfl (RL.p rfl ?_)
    exact K9 _ (.cons rfl (sK [2, 3, 4, 5] rfl))
  ·
    intro hb9 K9
    refine RL.p rfl (RL.p rfl (RL.p rfl (RL.p rfl (RL.p rfl ?_))))
    exact K9 _ (.cons rfl (sK [2, 3, 4, 5] rfl))
  refine RL.p rfl ?_
  apply RL.orB (d := 21) (dp := 26) (l' := (Sq.of [20, 21, 22, 23, 24, 25])) rfl (sK [2, 3, 4, 5] rfl)
  ·
    intro hb15 K15
    refine RL.fieldAddr fa_87_2 rfl rfl rfl rfl (RL.loadq Try.isAgg3 rfl rfl rfl rfl ?_)
    refine RL.callvq (two_any x.s) Try.call56 rfl rfl rfl rfl ?_
    refine RL.p rfl (RL.p rfl ?_)
    exact K15 _ (.cons rfl (sK [2, 3, 4, 5] rfl))
  ·
    intro hb15 K15
    refine RL.p rfl (RL.p rfl (RL.p rfl (RL.p rfl (RL.p rfl ?_))))
    exact K15 _ (.cons rfl (sK [2, 3, 4, 5] rfl))
  refine RL.p rfl ?_
  apply RL.orB (d := 27) (dp := 32) (l' := (Sq.of [])) rfl (sK [2, 3, 4, 5] rfl)
  ·
    intro hb21 K21
    refine RL.fieldAddr fa_87_3 rfl rfl rfl rfl (RL.loadq Try.isAgg3 rfl rfl rfl rfl ?_)
    refine RL.callvq (two_any x.e) Try.call56 rfl rfl rfl rfl ?_
    refine RL.p rfl (RL.p rfl ?_)
    exact K21 _ (.cons rfl (sK [2, 3, 4, 5] rfl))
  ·
    intro hb21 K21
    refine RL.p rfl (RL.p rfl (RL.p rfl (RL.p rfl (RL.p rfl ?_))))
    exact K21 _ (.cons rfl (sK [2, 3, 4, 5] rfl))
  refine RL.nil (NQ.seq ?_)
  refine CW.cond rfl (fun hx => ?_) (fun hx => ?_)
  ·
    refine CW.seq (CW.region (ef := [1]) (bk := [1]) (RL.buildA (List.replicate 32 (U8 0#8)) Try.zeroValue78 Try.runUnderlying78 Try.sizeOf5 rfl rfl rfl rfl rfl (RL.storeWq Try.sizeOf78 rfl rfl rfl rfl rfl rfl rfl ?_)))
    refine RL.p rfl (RL.nil (NQ.seq (CW.ret (RQ.seq ?_))))
    have hx : x.ok = false := by
      cases he : x.ok with
      | false => rfl
      | true =>
        obtain ⟨h1, h2, h3, h4⟩ := Ent.ok_iff.1 he
        simp [twoB] at hx; omega
    rw [next_no hx]
    exact RQ.post (resWT rfl rfl rfl Try.isAgg78 Try.sizeOf78 (by repeat (first | exact List.Mem.head _ | apply List.Mem.tail)) rfl) (Split.none _) ⟨rfl, rfl, rfl⟩
  ·
    have hx : x.ok = true := by
      rw [Ent.ok_iff]
      simp [twoB] at hx; omega
    obtain ⟨h1, h2, h3, h4⟩ := Ent.ok_iff.1 hx
    rw [next_yes hx]
    refine CW.skip (NQ.seq (CW.seq (CW.region (ef := [0, 2]) (bk := [2]) (RL.buildOwn [] Try.runUnderlying137 Try.sizeOf5 Try.zeroValue5 rfl rfl (by decide) (by decide) rfl (by decide) rfl rfl rfl rfl rfl rfl ?_))))
    intro b4
    refine RL.sliceAll Try.runUnderlying78 Try.sizeOf5 (by decide) rfl rfl rfl rfl ?_
    refine RL.appendq el_137 rfl rfl rfl rfl rfl rfl rfl ?_
    intro ob1 cap1 ho1
    refine RL.p rfl (RL.nil (NQ.seq (CW.ok [3, 4, 6] rfl (CW.seq (CW.regionD (Sq.of [0, 1, 2, 3, 6, 7, 8, 4, 5, 9, 10, 11]) [4, 5, 9, 10] [5, 10] [0, 1, 2, 3, 6, 7, 8, 11] mixed (by kernel_rfl) ?_)))))
    refine RL.p rfl (RL.fieldAddr fa_87_0 rfl rfl rfl rfl (RL.loadTq Try.isAgg3 rfl rfl rfl rfl ?_))
    refine RL.conv Try.runUnderlying3 Try.runUnderlying31 rfl rfl rfl rfl (RL.fieldAddr fa_87_1 rfl rfl rfl rfl (RL.loadTq Try.isAgg3 rfl rfl rfl rfl ?_))
    refine RL.conv Try.runUnderlying3 Try.runUnderlying31 rfl rfl rfl rfl (RL.callq (rnum36 x.t h1.1 h1.2 8 (by decide)) Try.call57 rfl rfl rfl rfl rfl (.inl rfl) ?_)
    rintro _ _ _ ⟨ob2, cap2, rfl, rfl, rfl, ho2⟩
    refine RL.appendq el_137 rfl rfl rfl rfl rfl rfl rfl ?_
    intro ob3 cap3 ho3
    refine RL.callq (rnum36 x.k h2.1 (by omega) 2 (by decide)) Try.call57 rfl rfl rfl rfl rfl (.inl rfl) ?_
    rintro _ _ _ ⟨ob4, cap4, rfl, rfl, rfl, ho4⟩
    refine RL.appendq el_137 rfl rfl rfl rfl rfl rfl rfl ?_
    intro ob5 cap5 ho5
    refine RL.p rfl (RL.nil (NQ.seq (CW.ok [3, 4, 6] rfl (CW.seq (CW.regionD (Sq.of [0, 1, 2, 3, 6, 7, 8, 4, 5, 9, 10, 11, 12, 13]) [4, 5, 9, 10, 12] [5, 10, 12] [0, 1, 2, 3, 6, 7, 8, 13] mixed (by kernel_rfl) ?_)))))
    refine RL.p rfl (RL.fieldAddr fa_87_2 rfl rfl rfl rfl (RL.loadTq Try.isAgg3 rfl rfl rfl rfl ?_))
    refine RL.conv Try.runUnderlying3 Try.runUnderlying31 rfl rfl rfl rfl (RL.fieldAddr fa_87_3 rfl rfl rfl rfl (RL.loadTq Try.isAgg3 rfl rfl rfl rfl ?_))
    refine RL.conv Try.runUnderlying3 Try.runUnderlying31 rfl rfl rfl rfl (RL.callq (rnum36 x.s h3.1 (by omega) 2 (by decide)) Try.call57 rfl rfl rfl rfl rfl (.inl rfl) ?_)
    rintro _ _ _ ⟨ob6, cap6, rfl, rfl, rfl, ho6⟩
    refine RL.appendq el_137 rfl rfl rfl rfl rfl rfl rfl ?_
    intro ob7 cap7 ho7
    refine RL.callq (rnum36 x.e h4.1 (by omega) 2 (by decide)) Try.call57 rfl rfl rfl rfl rfl (.inl rfl) ?_
    rintro _ _ _ ⟨ob8, cap8, rfl, rfl, rfl, ho8⟩
    refine RL.appendq el_137 rfl rfl rfl rfl rfl rfl rfl ?_
    intro ob9 cap9 ho9
    refine RL.callv (rof_n (ob9.map fun b => ⟨b, 0, none⟩) 46 cap9 (h ++ x.be) (by rw [List.length_append, hl, Ent.be_length]) (by decide)) Try.call58 rfl rfl rfl rfl (Lend.ownE (nn := 0 + 32 + 8 + 2 + 2 + 2) (by repeat (first | exact List.Mem.head _ | apply List.Mem.tail)) rfl (by simp [Ent.be]) .nil) ?_
    refine RL.storeWq Try.sizeOf78 rfl rfl rfl rfl rfl rfl rfl ?_
    refine RL.p rfl (RL.nil (NQ.seq (CW.ok [4, 5] rfl (CW.ret ?_))))
    exact RQ.post (resWT rfl rfl rfl Try.isAgg78 Try.sizeOf78 (by repeat (first | exact List.Mem.head _ | apply List.Mem.tail)) (by rw [List.length_map, nextD_length])) (Split.none _) ⟨rfl, rfl, rfl⟩
end Go.Proofs.Ytbdnebedmdoehaa
