import Derived.Test.YtbdnebedmdoehaaT10
namespace Go.Proofs.Ytbdnebedmdoehaa
open Go.PK

theorem add_ok (r lb m : Nat) (es rg : List Ent) (x : Ent) (hm : 0 < m) (hmb : m ≤ 4096) (hl : es.length ≤ 1000000000) (h : RecInv m es rg) (hx : x.ok = true) :
    Spc Try.prog 69 #[.pointer (some ⟨r, 0, none⟩), .agg x.cells.toArray] [] (RecH r lb m es rg)
      (fun v I' H' => v = .int .i64 0 ∧ I' = [] ∧ ∃ rg', RecInv m (es ++ [x]) rg' ∧ H' = RecH r lb m (es ++ [x]) rg') :=
  Spc.weaken (add_any r lb m es rg x hm hmb hl h) (fun v I' H' ⟨h1, h2, h3⟩ => by
    have e : esA es x = es ++ [x] := by simp [esA, hx]
    rw [e] at h3
    exact ⟨by rw [h1, if_pos hx], h2, h3⟩)
theorem new2 : Spc Try.prog 68 #[.int .i64 2] [] [] (fun v I' H' => ∃ r lb, v = .tuple #[.pointer (some ⟨r, 0, none⟩), .int .i64 0] ∧ I' = [] ∧ ∃ rg, RecInv 2 [] rg ∧ H' = RecH r lb 2 [] rg) := tnew_yes 2 (by decide) (by decide)
def exE (i : Nat) : Ent := ⟨(i : Int), 0, 0, 0⟩
def exL (i : Nat) : List Ent := (List.range i).map exE
theorem exL_succ (i : Nat) : exL i ++ [exE i] = exL (i + 1) := by simp [exL, List.range_succ]
theorem exL_len (i : Nat) : (exL i).length = i := by simp [exL]
theorem exE_ok {i : Nat} (h : i < 3) : (exE i).ok = true := by rw [Ent.ok_iff]; simp [exE]; omega
theorem ex_rep : repV 2 (exL 3) 9 = ⟨headOf [exE 0], headOf (exL 3), 1, [exE 1, exE 2]⟩ := rfl
theorem ex_head : headOf (exL 3) = th2_D := th_head
theorem ex_holds : holdsE ⟨headOf [exE 0], headOf (exL 3), 1, [exE 1, exE 2]⟩ = 0 := by
  have h : leadsD (headOf [exE 0]) [exE 1, exE 2] = some (headOf (exL 3)) := leadsD_snoc _ _ (by
    intro x hx
    simp only [List.mem_cons, List.not_mem_nil, or_false] at hx
    rcases hx with rfl | rfl <;> exact exE_ok (by decide))
  rw [holdsE, if_pos ⟨h, by decide⟩]
theorem works36 : Spc Try.prog 38 #[] [] [] (Is (.bool true)) := by
  refine Spc.enter Try.func38 rfl rfl rfl (fun w0 hw0 => ?_)
  refine CW.seq (CW.rg (RL.p rfl (RL.nil (NQ.seq (CW.seq (CW.region (ef := [0]) (bk := []) (RL.callq (new2) Try.call68 rfl rfl rfl rfl rfl (.inl rfl) ?_)))))))
  rintro _ _ _ ⟨r, lb, rfl, rfl, rg, hi, rfl⟩
  refine RL.p rfl (RL.p rfl (RL.p rfl (RL.p rfl (RL.p rfl (RL.nil (NQ.seq (CW.seq (CW.seq (CW.rg (RL.p rfl (RL.cmp rfl rfl rfl rfl rfl (eql_ptr Try.runUnderlying151 _) (RL.nil (NQ.seq ?_)))))))))))))
  refine CW.condF rfl (rfl) (CW.skip (NQ.seq (CW.ok [1, 2] rfl (CW.seq (CW.seq (CW.rg (RL.p rfl (RL.nil (NQ.seq (CW.block ?_))))))))))
  refine CW.loop (γ := Nat × List Ent) (fun g => g.1 ≤ 3 ∧ RecInv 2 (exL g.1) g.2) (fun g => [(1, .pointer (some ⟨r, 0, none⟩)), (2, .int .i64 0), (3, .int .i64 (g.1 : Int))]) (fun _ => [])
    (fun g => RecH r lb 2 (exL g.1) g.2) (fun g => 3 - g.1) (0, rg) ⟨by simp, hi⟩ (.cons rfl (.cons rfl (.cons rfl .nil))) (fun w h => h) ?_
  rintro ⟨i, rg'⟩ ⟨hi3, hinv⟩
  dsimp only at hi3 hinv ⊢
  refine CW.seq (CW.seq (CW.rg (RL.p rfl (RL.p rfl (RL.nil (NQ.seq ?_))))))
  refine CW.cond rfl (fun hlt => ?_) (fun hlt => ?_)
  ·
    have hlt : i < 3 := by simp at hlt; omega
    refine CW.skip (NQ.seq (CW.seq (CW.block (CW.seq (CW.region (ef := [3]) (bk := [3]) (RL.p rfl (RL.p rfl (RL.buildS [_, _, _, _] Try.zeroValue83 pl_83 rfl rfl rfl rfl rfl (RL.callq (add_ok r lb 2 (exL i) rg' (exE i) (by decide) (by decide) (by rw [exL_len]; omega) hinv (exE_ok hlt)) Try.call69 rfl rfl rfl rfl rfl (.inr rfl) ?_)))))))))
    rintro _ _ _ ⟨rfl, rfl, rg2, hinv2, rfl⟩
    rw [exL_succ] at hinv2 ⊢
    refine RL.p rfl (RL.nil (NQ.seq (CW.ok [1, 2, 3, 20] rfl (CW.condF rfl (rfl) (CW.skip (NQ.block (NQ.seq (CW.rg (RL.p rfl (RL.bx rfl (wrapV_i64 (by omega) (by omega)) ?_))))))))))
    refine RL.p rfl (RL.nil ?_)
    refine NQ.round (g := (i, rg')) (i + 1, rg2) ⟨hlt, hinv2⟩ (by show 3 - (i + 1) < 3 - i; omega) (.cons rfl (.cons rfl (.cons rfl .nil))) (fun w h => h)
  ·
    have hi : i = 3 := by simp at hlt; omega
    subst hi
    refine CW.exit (XQ.seq (XQ.seq (XQ.hit (NQ.seq (CW.seq (CW.region (ef := [1, 5, 6]) (bk := [6]) (RL.p rfl (RL.callq (report_any r lb 2 (exL 3) rg' 9 (by decide) (by decide) (by decide) hinv) Try.call70 rfl rfl rfl rfl rfl (.inl rfl) ?_))))))))
    rintro _ _ _ ⟨ob, cap, rfl, rfl, rfl⟩
    rw [ex_rep]
    have h1 := headOf_length [exE 0]
    have h2 := headOf_length (exL 3)
    refine RL.p rfl (RL.p rfl (RL.p rfl (RL.alloc Try.zeroValue81 rfl rfl rfl rfl rfl ?_)))
    intro b1
    refine RL.storeW Try.sizeOf81 rfl rfl rfl rfl rfl rfl rfl (ones_rep _ rfl) (by repeat (first | exact Upd.here | apply Upd.there)) (rep_len h1 h2) rfl ?_
    refine RL.p rfl (RL.nil (NQ.seq (CW.ok [1, 2, 4, 5] rfl (CW.seq (CW.region (ef := [19, 24]) (bk := []) (RL.p rfl (RL.p rfl (RL.p rfl (RL.cast (d := 28) (v' := .bool true) rfl (rfl) ?_)))))))))
    refine RL.p rfl (RL.p rfl (RL.p rfl (RL.p rfl (RL.cast (d := 32) (v' := .bool true) rfl (rfl) ?_))))
    refine RL.fieldAddr fa_81_3 rfl rfl rfl rfl (RL.load Try.isAgg79 rfl rfl rfl rfl (Rd.get (by repeat (first | exact List.Mem.head _ | apply List.Mem.tail)) (rep_sl h1 h2)) ?_)
    refine RL.lenS Try.runUnderlying79 rfl rfl rfl rfl (RL.p rfl (RL.p rfl (RL.p rfl (RL.cast (d := 38) (v' := .bool true) rfl (rfl) ?_))))
    refine RL.fieldAddr fa_81_2 rfl rfl rfl rfl (RL.load Try.isAgg3 rfl rfl rfl rfl (Rd.get (by repeat (first | exact List.Mem.head _ | apply List.Mem.tail)) (rep_a h1 h2)) ?_)
    refine RL.p rfl (RL.p rfl (RL.p rfl (RL.cast (d := 43) (v' := .bool true) rfl (rfl) ?_)))
    refine RL.loadA Try.isAgg81 Try.sizeOf81 rfl rfl rfl rfl (Rds.all (by repeat (first | exact List.Mem.head _ | apply List.Mem.tail))) (rep_len h1 h2) ?_
    refine RL.callv (tholds_any ⟨headOf [exE 0], headOf (exL 3), 1, [exE 1, exE 2]⟩ ob cap 2 h1 h2 rfl (by decide)) Try.call36 rfl rfl rfl rfl (Lend.own (by repeat (first | exact List.Mem.head _ | apply List.Mem.tail)) .nil) ?_
    refine RL.p rfl (RL.p rfl (RL.p rfl (RL.cast (d := 48) (v' := .bool true) rfl ((by rw [ex_holds]; rfl)) ?_)))
    refine RL.p rfl (RL.callvq (head_any r lb 2 _ _ _ _ _ (by decide) (headOf_length _) (headOf_length _)) Try.call71 rfl rfl rfl rfl ?_)
    refine RL.buildA (List.replicate 32 (U8 0#8)) Try.zeroValue78 Try.runUnderlying78 Try.sizeOf5 rfl rfl rfl rfl rfl (RL.cmp rfl rfl rfl rfl rfl (dig_ne (headOf (exL 3)) zeros h2 rfl _ _) (RL.p rfl (RL.p rfl (RL.nil (NQ.seq (CW.ok [0] rfl (CW.ret ?_)))))))
    exact RQ.post (res1 rfl rfl) (Split.none _) ⟨by rw [ex_head, th_ne]; rfl, rfl, rfl⟩
end Go.Proofs.Ytbdnebedmdoehaa
