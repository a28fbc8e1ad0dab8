import Derived.Test.YthndhipjfdgdfaaGreatDoorPX
import Derived.Test.YthndhipjfdgdfaaGreatDoorRE
set_option linter.unusedVariables false
set_option linter.unusedSimpArgs false
namespace Go.Proofs.YthndhipjfdgdfaaGreatDoor
open Go.PK
/-! ### GramReads -/
structure Nice (P : Pl) : Prop where
  cm : P.cf.cm.length = 32
  rt : ∀ s ∈ P.cf.L, s.rt.length = 32
  nl : P.cf.L.length ≤ 12
  nz : P.zs.length ≤ 12
  np : ∀ z ∈ P.zs, z.L.length ≤ 20
theorem nice0 : Nice zeroPl := ⟨rfl, by simp [zeroPl], Nat.zero_le _, Nat.zero_le _, by simp [zeroPl]⟩
theorem runT_inv : ∀ (L : List Tx) (i : Nat) (st st' : PS), (∀ l ∈ L, l.length ≤ 70000) → Inv i st.1 → runT L i st = .inr st' → ∃ j, Inv j st'.1
  | [], i, st, st', _, hi, h => by
    have h : st = st' := Sum.inr.inj h
    subst h; exact ⟨i, hi⟩
  | l :: r, i, st, st', hl, hi, h => by
    rw [runT_cons] at h
    have hr : ∀ x ∈ r, x.length ≤ 70000 := fun x hx => hl x (List.mem_cons_of_mem _ hx)
    split at h
    · split at h
      · cases h
      · next st2 h2 => exact runT_inv r _ _ _ hr (stepT_inv hi (hl l (List.mem_cons_self ..)) h2) h
    · exact runT_inv r _ _ _ hr (hi.mono (Nat.le_succ _)) h
theorem nice_of {i : Nat} {P : Pl} (h : Inv i P) (hk : P.ok = true) : Nice P := by
  unfold Pl.ok at hk
  simp only [Bool.and_eq_true, decide_eq_true_eq] at hk
  obtain ⟨⟨⟨h1, -⟩, -⟩, ⟨h2, h3⟩, -⟩ := hk
  refine ⟨h.cm, fun s hs => (h.L s hs).rt, ?_, Nat.le_trans h2 (by decide), fun z hz => ?_⟩
  · simp only [Cf.ok, srcB, Bool.and_eq_true, decide_eq_true_eq] at h1
    omega
  · have := List.all_eq_true.1 h3 z hz
    simp only [Zn.ok, Bool.and_eq_true, decide_eq_true_eq] at this
    omega
theorem parse_nice (t : Tx) : Nice (parseT t).1 := by
  unfold parseT
  split
  · exact nice0
  · next hlen =>
    split
    · exact nice0
    · split
      · exact nice0
      · next st hst =>
        split
        · split
          · next hok =>
            have hsum := splL_sum (c := 10#8) t
            obtain ⟨j, hj⟩ := runT_inv _ _ _ _ (fun s hs => by
              have h2 : s.length ≤ (splL 10#8 t).flatten.length := by
                obtain ⟨l1, l2, e⟩ := List.append_of_mem hs
                rw [e]; simp; omega
              omega) inv0 hst
            exact nice_of hj hok
          · exact nice0
        · exact nice0
theorem lreads (t : Tx) : Spc Tryz.prog 4 #[strV t] [gvI] [] (Is (.bool true)) := by
  refine Spc.enter Tryz.func4 rfl rfl rfl (fun w0 hw0 => ?_)
  refine CW.seq (CW.rg (RL.p rfl (RL.nil (NQ.seq (CW.seq (CW.seq (CW.rg (RL.p rfl (RL.lenTxt Tryz.runUnderlying9 rfl rfl rfl rfl (RL.p rfl (RL.nil (NQ.seq ?_))))))))))))
  refine CW.genI (fun J hJ => ?_)
  have mG : gvI ∈ J := hJ _ (by simp)
  clear hJ
  refine CW.cutG (γ := Tx) (fun _ => True) (fun s => [(0, strV s)]) (fun _ => J) (fun _ => []) ?_ ?_
  ·
    refine CW.cond rfl (fun h => ?_) (fun h => ?_)
    ·
      refine CW.rg (RL.p rfl (RL.p rfl (RL.lenTxt Tryz.runUnderlying9 rfl rfl rfl rfl (RL.min rfl rfl rfl rfl rfl (RL.sliceTxt (s := t) (lo := 0) (hi := min t.length 8000) Tryz.runUnderlying9 rfl rfl rfl rfl rfl (by show some (min (t.length : Int) 8000) = some ((min t.length 8000 : Nat) : Int); congr 1; omega) (Nat.zero_le _) (Nat.min_le_left _ _) ?_)))))
      refine RL.p rfl (RL.nil ?_)
      exact NQ.midG _ trivial (.cons rfl .nil) (fun w h => h)
    ·
      refine CW.skip ?_
      exact NQ.midG t trivial (.cons rfl .nil) (fun w h => h)
  rintro s -
  have hN := parse_nice s
  have hga := gparse_any s
  have hra := rparse_any s
  generalize parseT s = r at hN hga hra
  obtain ⟨P, k, e⟩ := r
  have hN : Nice P := hN
  have hpF := fun sl zl => pl_len (P := P) hN.cm sl zl
  refine CW.seq (CW.region (ef := [1, 6, 7]) (bk := [1, 7]) (RL.p rfl (RL.call (hga) Tryz.call16 rfl rfl rfl rfl rfl (by repeat (first | exact Pick.nil | apply Pick.take | apply Pick.leave)) (.inI mG .nil) (.inr rfl) ?_)))
  rintro _ _ _ ⟨o1, c1, q1, d1, Y1, hY1, rfl, rfl, rfl⟩
  simp only [plH]
  refine RL.p rfl (RL.p rfl (RL.p rfl (RL.p rfl (RL.alloc Tryz.zeroValue35 rfl rfl rfl rfl rfl ?_))))
  intro b1
  refine RL.storeW Tryz.sizeOf35 rfl rfl rfl rfl rfl rfl rfl (pl_ones _ rfl rfl) (by repeat (first | exact Upd.here | apply Upd.there)) (hpF _ _) rfl ?_
  refine RL.p rfl (RL.p rfl (RL.nil (NQ.seq (CW.ok [0, 3, 4, 5] rfl (CW.seq (CW.region (ef := [1, 6, 7]) (bk := [1, 7]) (RL.p rfl (RL.call (hra) Tryz.call17 rfl rfl rfl rfl rfl (by repeat (first | exact Pick.nil | apply Pick.take | apply Pick.leave)) .nil (.inr rfl) ?_))))))))
  rintro _ _ _ ⟨o2, c2, q2, d2, Y2, hY2, rfl, rfl, rfl⟩
  simp only [plT]
  refine RL.p rfl (RL.p rfl (RL.p rfl (RL.p rfl (RL.alloc Tryz.zeroValue43 rfl rfl rfl rfl rfl ?_))))
  intro b2
  refine RL.storeW Tryz.sizeOf43 rfl rfl rfl rfl rfl rfl rfl (pl_ones _ rfl rfl) (by repeat (first | exact Upd.here | apply Upd.there)) (hpF _ _) rfl ?_
  refine RL.p rfl (RL.p rfl (RL.nil (NQ.seq (CW.ok [3, 4, 5, 6, 7, 8] rfl (CW.seq (CW.freezeAll rfl ?_))))))
  refine CW.genI (fun J2 hJ => ?_)
  have nG : gvI ∈ J2 := hJ _ (by simp [mG])
  have n1 : cel b1 (plC P (slO o1 P.cf.L.length c1) (slO q1 P.zs.length d1)) 35 ∈ J2 := hJ _ (by simp)
  have n2 : own o1 c1 98 48 P.cf.L.length (P.cf.L.flatMap Sr.cells) ∈ J2 := hJ _ (by simp)
  have n3 : own q1 d1 73 4 P.zs.length (Y1.flatMap znO) ∈ J2 := hJ _ (by simp)
  have n4 : allI (Y1.map znI) ∈ J2 := hJ _ (by simp)
  have r1 : cel b2 (plC P (slO o2 P.cf.L.length c2) (slO q2 P.zs.length d2)) 43 ∈ J2 := hJ _ (by simp)
  have r2 : own o2 c2 108 48 P.cf.L.length (P.cf.L.flatMap Sr.cells) ∈ J2 := hJ _ (by simp)
  have r3 : own q2 d2 77 4 P.zs.length (Y2.flatMap znO) ∈ J2 := hJ _ (by simp)
  have r4 : allI (Y2.map (znT 79)) ∈ J2 := hJ _ (by simp)
  clear hJ
  have fA : RdsN J2 ⟨b1, 0, none⟩ 50 (plC P (slO o1 P.cf.L.length c1) (slO q1 P.zs.length d1)) := RdsN.told n1 (fun j u hu => by rw [Nat.zero_add]; exact hu) (hpF _ _)
  have fB : RdsN J2 ⟨b2, 0, none⟩ 50 (plC P (slO o2 P.cf.L.length c2) (slO q2 P.zs.length d2)) := RdsN.told r1 (fun j u hu => by rw [Nat.zero_add]; exact hu) (hpF _ _)
  have lP : ∀ H, Lend J2 H (plI P o1 q1 Y1) := fun H => Lend.ownI n2 (Lend.ownI n3 (lend_zT (T := 80) (.inr n4) _ (fun _ h => h)))
  have lR : ∀ H, Lend J2 H (plI P o2 q2 Y2) := fun H => Lend.ownI r2 (Lend.ownI r3 (lend_zT (.inr r4) _ (fun _ h => h)))
  refine CW.regionD (Sq.of [0, 2, 1, 3, 4, 5, 6, 7, 8, 9, 10, 11, 12, 13, 14, 15, 16, 17]) [1, 3, 15] [1] [0, 2, 4, 5, 6, 7, 8, 9, 10, 11, 12, 13, 14, 16, 17] mixed (by kernel_rfl) ?_
  refine RL.loadSTq Tryz.isAgg35 Tryz.sizeOf35 rfl rfl rfl rfl ?_
  refine RL.loadSTq Tryz.isAgg43 Tryz.sizeOf43 rfl rfl rfl rfl ?_
  refine RL.call (lpl_any P o1 q1 c1 d1 _ _ Y1 rfl rfl hY1 hN.cm hN.rt hN.nl hN.nz hN.np) Tryz.call7 rfl rfl rfl rfl rfl (by repeat (first | exact Pick.nil | apply Pick.take | apply Pick.leave)) (lP _) (.inr rfl) ?_
  rintro _ _ _ ⟨o3, c3, q3, d3, Y3, hY3, rfl, rfl, rfl⟩
  simp only [plT]
  refine RL.callv (lsame_any P o3 q3 o2 q2 c3 d3 c2 d2 Y3 Y2 hY3 hY2 hN.cm hN.rt (Nat.le_trans hN.nl (by decide)) (Nat.le_trans hN.nz (by decide)) (fun z hz => Nat.le_trans (hN.np z hz) (by decide))) Tryz.call12 rfl rfl rfl rfl (Lend.app (Lend.own (by repeat (first | exact List.Mem.head _ | apply List.Mem.tail)) (Lend.own (by repeat (first | exact List.Mem.head _ | apply List.Mem.tail)) (lend_zT (.inl (by repeat (first | exact List.Mem.head _ | apply List.Mem.tail))) _ (fun _ h => h)))) (lR _)) ?_
  refine RL.p rfl ?_
  apply RL.andB (d := 33) (dp := 37) (l' := (Sq.of [9, 10, 11, 12, 13, 14, 15, 16, 17])) rfl (sK [5, 8] rfl)
  ·
    intro hb5 K5
    refine RL.p rfl (RL.p rfl (RL.p rfl (RL.p rfl ?_)))
    exact K5 _ (.cons rfl (sK [5, 8] rfl))
  ·
    intro hb5 K5
    refine RL.p rfl (RL.p rfl (RL.p rfl (RL.p rfl ?_)))
    exact K5 _ (.cons rfl (sK [5, 8] rfl))
  refine RL.p rfl ?_
  apply RL.andB (d := 38) (dp := 42) (l' := (Sq.of [14, 15, 16, 17])) rfl .nil
  ·
    intro hb10 K10
    refine RL.p rfl (RL.p rfl (RL.p rfl (RL.p rfl ?_)))
    exact K10 _ (.cons rfl .nil)
  ·
    intro hb10 K10
    refine RL.p rfl (RL.p rfl (RL.p rfl (RL.p rfl ?_)))
    exact K10 _ (.cons rfl .nil)
  refine RL.p rfl ?_
  apply RL.andB (d := 43) (dp := 45) (l' := (Sq.of [17])) rfl .nil
  ·
    intro hb15 K15
    refine RL.callv (works38) Tryz.call15 rfl rfl rfl rfl (.inI nG .nil) (RL.p rfl ?_)
    exact K15 _ (.cons rfl .nil)
  ·
    intro hb15 K15
    refine RL.p rfl (RL.p rfl ?_)
    exact K15 _ (.cons rfl .nil)
  refine RL.p rfl (RL.nil (NQ.seq (CW.ret ?_)))
  exact RQ.post (res1 rfl rfl) (Split.none _) ⟨by simp, rfl, rfl⟩
noncomputable def rText : Rdr Tryz.prog 9 (List B8) := Rdr.text (by kernel_rfl) (by kernel_rfl)
theorem gramReads_call (W : World) (t : Tx) (ht : rText.ok t) (_ : ∀ y ∈ rText.its t, y.A W) (hv : gvI.A W) :
    Calls Tryz.prog 4 #[rText.val t] W (fun e w' => e = .returned (.bool true) ∧ RowKit.Below W.heap.size W w') :=
  (lreads t).lawI (fun y hy => by
    rw [List.mem_singleton.1 hy]; exact hv)
end Go.Proofs.YthndhipjfdgdfaaGreatDoor
