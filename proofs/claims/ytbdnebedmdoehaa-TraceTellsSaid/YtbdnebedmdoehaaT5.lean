import Derived.Test.YtbdnebedmdoehaaT4
namespace Go.Proofs.Ytbdnebedmdoehaa
open Go.PK

theorem Spc.weaken {P : Program} {f : FuncId} {args : Array Value} {I H : List It} {R R' : Value → List It → List It → Prop} (h : Spc P f args I H R) (hr : ∀ v I' H', R v I' H' → R' v I' H') : Spc P f args I H R' := fun w hw =>
  (h w hw).mono fun _ _ ⟨v, I', H', he, hR, hk⟩ => ⟨v, I', H', he, hr _ _ _ hR, hk⟩
/-- The head behind all these entries. -/
def headOf (es : List Ent) : List B8 := es.foldl nextD zeros
theorem headOf_snoc (es : List Ent) (x : Ent) : headOf (es ++ [x]) = nextD (headOf es) x := by simp [headOf, List.foldl_append]
theorem headOf_length : ∀ es : List Ent, (headOf es).length = 32 := by
  intro es
  rcases List.eq_nil_or_concat es with rfl | ⟨l, x, rfl⟩
  · rfl
  · rw [List.concat_eq_append, headOf_snoc, nextD_length]
theorem headOf_take {es : List Ent} {q : Nat} {x : Ent} (h : es[q]? = some x) : headOf (es.take (q + 1)) = nextD (headOf (es.take q)) x := by
  obtain ⟨hq, rfl⟩ := List.getElem?_eq_some_iff.1 h
  rw [List.take_succ_eq_append_getElem hq, headOf_snoc]
/-- The ring holds the last entries. -/
structure RecInv (m : Nat) (es rg : List Ent) : Prop where
  len : rg.length = m
  at_ : ∀ g, es.length - min es.length m ≤ g → g < es.length → rg[g % m]? = es[g]?
  ok : ∀ x ∈ es, x.ok = true
abbrev RecH (r lb m : Nat) (es rg : List Ent) : List It :=
  [recIt r lb m ((es.length - min es.length m) % m) (min es.length m) (headOf (es.take (es.length - min es.length m))) (headOf es) es.length, rgIt lb rg]
def esA (es : List Ent) (x : Ent) : List Ent := if x.ok then es ++ [x] else es
theorem mod_ne {g n m : Nat} (h1 : g < n) (h2 : n < g + m) : g % m ≠ n % m := fun e => by
  have := Nat.sub_mod_eq_zero_of_mod_eq e.symm
  rw [Nat.mod_eq_of_lt (by omega)] at this
  omega
theorem RecInv.add {m : Nat} {es rg : List Ent} {x : Ent} (h : RecInv m es rg) (hm : 0 < m) (hx : x.ok = true) : RecInv m (es ++ [x]) (rg.set (es.length % m) x) := by
  have hlt := Nat.mod_lt es.length hm
  refine ⟨by rw [List.length_set, h.len], fun g h1 h2 => ?_, fun y hy => ?_⟩
  · rw [List.length_append, List.length_singleton] at h1 h2
    by_cases hg : g = es.length
    · subst hg
      rw [List.getElem?_set_self (by rw [h.len]; exact hlt), List.getElem?_append_right (Nat.le_refl _)]
      simp
    · have hne := mod_ne (g := g) (n := es.length) (m := m) (by omega) (by omega)
      rw [List.getElem?_set_ne (Ne.symm hne), List.getElem?_append_left (by omega)]
      exact h.at_ g (by omega) (by omega)
  · rcases List.mem_append.1 hy with hy | hy
    · exact h.ok y hy
    · rw [List.mem_singleton.1 hy]; exact hx
theorem add_any (r lb m : Nat) (es rg : List Ent) (x : Ent) (hm : 0 < m) (hmb : m ≤ 4096) (hl : es.length ≤ 1000000000) (h : RecInv m es rg) :
    Spc Try.prog 69 #[.pointer (some ⟨r, 0, none⟩), .agg x.cells.toArray] [] (RecH r lb m es rg)
      (fun v I' H' => v = .int .i64 (if x.ok then 0 else 2) ∧ I' = [] ∧ ∃ rg', RecInv m (esA es x) rg' ∧ H' = RecH r lb m (esA es x) rg') := by
  cases hx : x.ok with
  | false =>
    refine Spc.weaken (add_no r lb m _ _ _ _ _ rg x hm (headOf_length _) (headOf_length _) hx) (fun v I' H' ⟨h1, h2, h3⟩ => ⟨by rw [h1]; rfl, h2, rg, ?_, ?_⟩)
    · simpa [esA, hx] using h
    · simpa [esA, hx] using h3
  | true =>
    have he : esA es x = es ++ [x] := by simp [esA, hx]
    rw [he]
    by_cases hfull : es.length < m
    · have e1 : min es.length m = es.length := Nat.min_eq_left (by omega)
      have e2 : min (es ++ [x]).length m = es.length + 1 := by rw [List.length_append, List.length_singleton]; omega
      refine Spc.weaken (add_some r lb m _ _ _ _ _ rg x hm hmb (Nat.mod_lt _ hm) (by omega) hl (headOf_length _) (headOf_length _) hx h.len) (fun v I' H' ⟨h1, h2, h3⟩ => ⟨by rw [h1]; rfl, h2, _, h.add hm hx, ?_⟩)
      rw [h3, RecH, e1, e2]
      simp only [List.length_append, List.length_singleton, Nat.sub_self, List.take_zero, Nat.zero_mod, Nat.zero_add, headOf_snoc]
    · have e1 : min es.length m = m := Nat.min_eq_right (by omega)
      have e2 : min (es ++ [x]).length m = m := by rw [List.length_append, List.length_singleton]; omega
      have hq : es.length - m < es.length := by omega
      have h0 : rg[((es.length - m) % m + 0) % m]? = some es[es.length - m] := by
        rw [Nat.add_zero, Nat.mod_mod, h.at_ _ (by omega) hq, List.getElem?_eq_getElem hq]
      have f1 : ((es.length - m) % m + 1) % m = (es.length + 1 - m) % m := by rw [Nat.mod_add_mod]; congr 1; omega
      have f2 : (((es.length - m) % m + 1) % m + (m - 1)) % m = es.length % m := by
        rw [Nat.mod_add_mod, Nat.add_assoc, show 1 + (m - 1) = m by omega, Nat.mod_add_mod, show es.length - m + m = es.length by omega]
      have hrh : RecH r lb m es rg = [recIt r lb m ((es.length - m) % m) m (headOf (es.take (es.length - m))) (headOf es) es.length, rgIt lb rg] := by rw [RecH, e1]
      rw [hrh]
      refine Spc.weaken (add_full r lb m _ _ _ _ rg x es[es.length - m] hm hmb (Nat.mod_lt _ hm) hl (headOf_length _) (headOf_length _) hx h.len h0 (h.ok _ (List.getElem_mem hq))) (fun v I' H' ⟨h1, h2, h3⟩ => ⟨by rw [h1]; rfl, h2, _, h.add hm hx, ?_⟩)
      rw [h3, RecH, e2, f2, f1, show m - 1 + 1 = m by omega, ← headOf_take (List.getElem?_eq_getElem hq), headOf_snoc]
      simp only [List.length_append, List.length_singleton]
      rw [List.take_append_of_le_length (by omega), show es.length - m + 1 = es.length + 1 - m by omega]

theorem reps_ents (n : Nat) : reps [.int .i64 0, .int .i64 0, .int .i64 0, .int .i64 0] n = entsV (List.replicate n ⟨0, 0, 0, 0⟩) := by
  induction n with
  | zero => rfl
  | succ n ih =>
    rw [List.replicate_succ]
    exact congrArg ([Value.int .i64 0, .int .i64 0, .int .i64 0, .int .i64 0] ++ ·) ih
theorem tnew_no (z : Int) (hz : z < 1 ∨ z > 4096) : Spc Try.prog 68 #[.int .i64 z] [] [] (Is (.tuple #[.pointer none, .int .i64 2])) := by
  refine Spc.enter Try.func68 rfl rfl rfl (fun w0 hw0 => ?_)
  refine CW.seq (CW.rg (RL.p rfl (RL.p rfl (RL.nil (NQ.seq (CW.seq (CW.seq (CW.rg (RL.p rfl (RL.p rfl (RL.p rfl ?_)))))))))))
  apply RL.orB (d := 6) (dp := 9) (l' := (Sq.of [])) rfl (sK [0, 2, 3] rfl)
  ·
    intro hb3 K3
    refine RL.p rfl (RL.p rfl (RL.p rfl ?_))
    exact K3 _ (.cons rfl (sK [0, 2, 3] rfl))
  ·
    intro hb3 K3
    refine RL.p rfl (RL.p rfl (RL.p rfl ?_))
    exact K3 _ (.cons rfl (sK [0, 2, 3] rfl))
  refine RL.nil (NQ.seq (CW.condT rfl (by simp; omega) ?_))
  refine CW.seq (CW.rg (RL.p rfl (RL.p rfl (RL.nil (NQ.seq (CW.ret (RQ.seq ?_)))))))
  exact RQ.post (res2 rfl rfl rfl) (Split.none _) ⟨rfl, rfl, rfl⟩
theorem tnew_yes (m : Nat) (h1 : 0 < m) (h2 : m ≤ 4096) : Spc Try.prog 68 #[.int .i64 (m : Int)] [] []
    (fun v I' H' => ∃ r lb, v = .tuple #[.pointer (some ⟨r, 0, none⟩), .int .i64 0] ∧ I' = [] ∧ ∃ rg, RecInv m [] rg ∧ H' = RecH r lb m [] rg) := by
  refine Spc.enter Try.func68 rfl rfl rfl (fun w0 hw0 => ?_)
  refine CW.seq (CW.rg (RL.p rfl (RL.p rfl (RL.nil (NQ.seq (CW.seq (CW.seq (CW.rg (RL.p rfl (RL.p rfl (RL.p rfl ?_)))))))))))
  apply RL.orB (d := 6) (dp := 9) (l' := (Sq.of [])) rfl (sK [0, 2, 3] rfl)
  ·
    intro hb3 K3
    refine RL.p rfl (RL.p rfl (RL.p rfl ?_))
    exact K3 _ (.cons rfl (sK [0, 2, 3] rfl))
  ·
    intro hb3 K3
    refine RL.p rfl (RL.p rfl (RL.p rfl ?_))
    exact K3 _ (.cons rfl (sK [0, 2, 3] rfl))
  refine RL.nil (NQ.seq (CW.condF rfl (by simp; omega) ?_))
  refine CW.skip (NQ.seq (CW.seq (CW.region (ef := [1, 4]) (bk := []) (RL.p rfl (RL.makeSlice (len := m) (zs := [.int .i64 0, .int .i64 0, .int .i64 0, .int .i64 0]) Try.runUnderlying79 Try.sizeOf83 (ii := Try.t83) (by kernel_rfl) Try.zeroValue83 rfl rfl (by decide) h1 (by show m * 32 ≤ 1000000; omega) (by omega) rfl rfl rfl rfl rfl rfl rfl rfl ?_)))))
  intro lb
  rw [reps_ents]
  refine RL.buildS [_, _, _] Try.zeroValue222 pl_222 rfl rfl rfl rfl rfl (RL.buildS (recCells lb m 0 0 zeros zeros 0) Try.zeroValue224 pl_224 rfl rfl rfl rfl rfl (RL.box rfl rfl rfl rfl rfl rfl ?_))
  intro b1
  refine RL.p rfl (RL.p rfl (RL.nil (NQ.seq (CW.ok [2, 3] rfl (CW.ret ?_)))))
  refine RQ.post (res2 rfl rfl rfl) (.keep (.keep .nil)) ⟨b1, lb, rfl, rfl, List.replicate m ⟨0, 0, 0, 0⟩, ⟨by simp, fun g h1 h2 => by simp at h2, by simp⟩, ?_⟩
  simp [RecH, headOf, recIt]
theorem head_any (r lb m f n : Nat) (fr hd : List B8) (c : Nat) (hm : 0 < m) (h1 : fr.length = 32) (h2 : hd.length = 32) : Spc Try.prog 71 #[.pointer (some ⟨r, 0, none⟩)] [recIt r lb m f n fr hd c] [] (Is (.agg (bytes hd).toArray)) := by
  refine Spc.enter Try.func71 rfl rfl rfl (fun w0 hw0 => ?_)
  refine CW.seq (CW.region (ef := [0]) (bk := []) (RL.alloc (cs := List.replicate 32 (U8 0#8)) Try.zeroValue78 rfl rfl rfl rfl rfl ?_))
  intro b1
  refine RL.nil (NQ.seq (CW.seq (CW.seq (CW.rg (RL.p rfl (RL.callvq (tis_yes r lb m _ 224 hm) Try.call99 rfl rfl rfl rfl ?_))))))
  refine RL.p rfl (RL.nil (NQ.seq (CW.condF rfl (rfl) (CW.skip (NQ.seq (CW.seq (CW.region (ef := [4]) (bk := [4]) (RL.p rfl (RL.p rfl (RL.fieldAddr fa_224_2 rfl rfl rfl rfl (RL.loadSegI ([.slice (some ⟨lb, 0, none⟩) m m, .int .i64 (f : Int), .int .i64 (n : Int)] ++ bytes fr) (bytes hd) [.int .i64 (c : Int)] Try.isAgg78 Try.sizeOf78 rfl rfl rfl rfl (by repeat (first | exact List.Mem.head _ | apply List.Mem.tail)) (by simp [recCells]) (by simp [h1]) (by simp [h2]) ?_)))))))))))
  refine RL.storeWq Try.sizeOf78 rfl rfl rfl rfl rfl rfl rfl ?_
  refine RL.nil (NQ.seq (CW.ok [2] rfl (CW.ret ?_)))
  exact RQ.post (resW rfl rfl Try.isAgg78 Try.sizeOf78 (by repeat (first | exact List.Mem.head _ | apply List.Mem.tail)) (by rw [List.length_map, h2])) (Split.none _) ⟨rfl, rfl, rfl⟩
end Go.Proofs.Ytbdnebedmdoehaa
