import Derived.Test.YthndhipjfdgdfaaGreatDoorPX
import Derived.Test.YthndhipjfdgdfaaGreatDoorP6b
import Derived.Test.YthndhipjfdgdfaaGreatDoorRA
set_option linter.unusedVariables false
set_option linter.unusedSimpArgs false
namespace Go.Proofs.YthndhipjfdgdfaaGreatDoor
open Go.PK
/-! ### GramPrints -/
theorem prV_tup (P : Pl) : ∃ (t : Tx) (e : Int), prV P = .tuple #[strV t, .int .i64 e] := by
  by_cases h : P.ok = true
  · exact ⟨_, _, by rw [prV, if_pos h]⟩
  · exact ⟨_, _, by rw [prV, if_neg h]⟩
theorem plainC_rt (seed : B8) : ∀ s ∈ (plainP seed).cf.L, s.rt.length = 32 := fun s hs => ((plainC_fit seed []).L s hs).rt
theorem plain_nz (seed : B8) : (plainP seed).zs.length = 1 := rfl
theorem plain_z (seed : B8) : ∀ z ∈ (plainP seed).zs, z.L.length ≤ 20 := fun z hz => by
  rw [List.mem_singleton.1 hz]; exact Nat.le_of_ble_eq_true rfl
theorem lprints (x : PlA) (hx : x.Ok) (seed : B8) :
    Spc Tryz.prog 3 #[.agg (plC x.P (.slice x.pa x.P.cf.L.length x.ca) (.slice x.pz x.P.zs.length x.cz)).toArray, U8 seed] (gvI :: sls x.pa 48 x.P.cf.L.length (x.P.cf.L.flatMap Sr.cells) :: sls x.pz 4 x.P.zs.length (x.ZL.flatMap znA) :: x.ZL.map znB) [] (Is (.bool true)) := by
  have hF := few_ok hx
  have hfw := lfw_any x.P x.pa x.pz x.ca x.cz _ _ x.ZL rfl rfl hx.zl hx.cf.cm (fun s hs => (hx.cf.L s hs).rt) hx.cf.l hx.cf.b hx.zn (fun z hz => ⟨Nat.le_trans (hx.z z hz).l.1 (hx.z z hz).l.2, (hx.z z hz).l.1⟩)
  have hpl := pl_len hx.cf.cm (.slice x.pa x.P.cf.L.length x.ca) (.slice x.pz x.P.zs.length x.cz)
  have hpF := fun sl zl => pl_len (P := x.P.few) hF.cm sl zl
  generalize hFe : x.P.few = F at hF hfw hpF
  refine Spc.enter Tryz.func3 rfl rfl rfl (fun w0 hw0 => ?_)
  refine CW.seq (CW.region (ef := [0]) (bk := []) (RL.box rfl rfl rfl rfl rfl rfl ?_))
  intro b1
  refine RL.p rfl (RL.nil (NQ.seq (CW.seq ?_)))
  refine CW.genI (fun J hJ => ?_)
  have mG : gvI ∈ J := hJ _ (by simp)
  have mI : ∀ y ∈ (sls x.pa 48 x.P.cf.L.length (x.P.cf.L.flatMap Sr.cells) :: sls x.pz 4 x.P.zs.length (x.ZL.flatMap znA) :: x.ZL.map znB), y ∈ J := fun y hy => hJ _ (List.mem_cons_of_mem _ hy)
  clear hJ
  refine CW.region (ef := [1, 2]) (bk := [1, 2]) (RL.loadW Tryz.isAgg35 Tryz.sizeOf35 rfl rfl rfl rfl (by repeat (first | exact List.Mem.head _ | apply List.Mem.tail)) hpl ?_)
  refine RL.call (hfw) Tryz.call6 rfl rfl rfl rfl rfl (by repeat (first | exact Pick.nil | apply Pick.take | apply Pick.leave)) (Lend.many mI) (.inr rfl) ?_
  rintro _ _ _ ⟨o1, c1, q1, d1, Y1, hY1, rfl, rfl, rfl⟩
  simp only [plT]
  refine RL.storeW Tryz.sizeOf35 rfl rfl rfl rfl rfl rfl rfl (pl_ones _ rfl rfl) (by repeat (first | exact Upd.here | apply Upd.there)) (hpF _ _) hpl ?_
  refine RL.nil (NQ.seq (CW.seq (CW.freezeAll rfl ?_)))
  refine CW.genI (fun J2 hJ => ?_)
  have nG : gvI ∈ J2 := hJ _ (by simp [mG])
  have n1 : cel b1 (plC F (slO o1 F.cf.L.length c1) (slO q1 F.zs.length d1)) 35 ∈ J2 := hJ _ (by simp)
  have n2 : own o1 c1 98 48 F.cf.L.length (F.cf.L.flatMap Sr.cells) ∈ J2 := hJ _ (by simp)
  have n3 : own q1 d1 73 4 F.zs.length (Y1.flatMap znO) ∈ J2 := hJ _ (by simp)
  have n4 : allI (Y1.map (znT 80)) ∈ J2 := hJ _ (by simp)
  clear hJ
  have fA : RdsN J2 ⟨b1, 0, none⟩ 50 (plC F (slO o1 F.cf.L.length c1) (slO q1 F.zs.length d1)) := RdsN.told n1 (fun j u hu => by rw [Nat.zero_add]; exact hu) (hpF _ _)
  have lP : Lend J2 [] (plI F o1 q1 Y1) := Lend.ownI n2 (Lend.ownI n3 (lend_zT (.inr n4) _ (fun _ h => h)))
  refine CW.region (ef := [1, 2, 3]) (bk := [1, 3]) (RL.loadSq Tryz.isAgg35 Tryz.sizeOf35 rfl rfl rfl rfl ?_)
  refine RL.call (lpl_any F o1 q1 c1 d1 _ _ Y1 rfl rfl hY1 hF.cm hF.rt hF.nl hF.nz (fun z hz => (hF.z z hz).2)) Tryz.call7 rfl rfl rfl rfl rfl (by repeat (first | exact Pick.nil | apply Pick.take | apply Pick.leave)) lP (.inr rfl) ?_
  rintro _ _ _ ⟨o2, c2, q2, d2, Y2, hY2, rfl, rfl, rfl⟩
  simp only [plT]
  refine RL.alloc Tryz.zeroValue43 rfl rfl rfl rfl rfl ?_
  intro b2
  refine RL.storeW Tryz.sizeOf43 rfl rfl rfl rfl rfl rfl rfl (pl_ones _ rfl rfl) (by repeat (first | exact Upd.here | apply Upd.there)) (hpF _ _) rfl ?_
  refine RL.nil (NQ.seq (CW.ok [1, 2, 5] rfl (CW.seq (CW.freezeAll rfl ?_))))
  refine CW.genI (fun J3 hJ => ?_)
  have h3 : ∀ y ∈ J2, y ∈ J3 := fun y hy => hJ y (by simp [hy])
  have mG : gvI ∈ J3 := h3 _ nG
  have n1 := h3 _ n1
  have n2 := h3 _ n2
  have n3 := h3 _ n3
  have n4 := h3 _ n4
  have r1 : cel b2 (plC F (slO o2 F.cf.L.length c2) (slO q2 F.zs.length d2)) 43 ∈ J3 := hJ _ (by simp)
  have r2 : own o2 c2 108 48 F.cf.L.length (F.cf.L.flatMap Sr.cells) ∈ J3 := hJ _ (by simp)
  have r3 : own q2 d2 77 4 F.zs.length (Y2.flatMap znO) ∈ J3 := hJ _ (by simp)
  have r4 : allI (Y2.map (znT 79)) ∈ J3 := hJ _ (by simp)
  clear hJ fA lP
  have fA : RdsN J3 ⟨b1, 0, none⟩ 50 (plC F (slO o1 F.cf.L.length c1) (slO q1 F.zs.length d1)) := RdsN.told n1 (fun j u hu => by rw [Nat.zero_add]; exact hu) (hpF _ _)
  have fB : RdsN J3 ⟨b2, 0, none⟩ 50 (plC F (slO o2 F.cf.L.length c2) (slO q2 F.zs.length d2)) := RdsN.told r1 (fun j u hu => by rw [Nat.zero_add]; exact hu) (hpF _ _)
  have lP : ∀ H, Lend J3 H (plI F o1 q1 Y1) := fun H => Lend.ownI n2 (Lend.ownI n3 (lend_zT (.inr n4) _ (fun _ h => h)))
  have lR : ∀ H, Lend J3 H (plI F o2 q2 Y2) := fun H => Lend.ownI r2 (Lend.ownI r3 (lend_zT (.inr r4) _ (fun _ h => h)))
  have hgp := gprint_any F o1 q1 c1 d1 Y1 (hF.fit hY1) hF.all
  have hrp := rprint_any F o2 q2 c2 d2 Y2 (hF.fit hY2) hF.all
  have hgc := gcheck_any F o1 q1 c1 d1 Y1 (hF.fit hY1)
  have hrc := rgcheck_any F o2 q2 c2 d2 Y2 (hF.fit hY2)
  obtain ⟨tP, eP, htP⟩ := prV_tup F
  rw [htP] at hgp hrp
  refine CW.rg (RL.loadSq Tryz.isAgg35 Tryz.sizeOf35 rfl rfl rfl rfl ?_)
  refine RL.callv (hgp) Tryz.call8 rfl rfl rfl rfl (.inI mG (lP _)) (RL.p rfl (RL.p rfl (RL.p rfl (RL.p rfl (RL.p rfl (RL.nil (NQ.seq (CW.seq (CW.rg (RL.loadSq Tryz.isAgg43 Tryz.sizeOf43 rfl rfl rfl rfl ?_))))))))))
  refine RL.callv (hrp) Tryz.call9 rfl rfl rfl rfl (lR _) (RL.p rfl (RL.p rfl (RL.p rfl (RL.p rfl (RL.p rfl (RL.nil (NQ.seq (CW.ok [1, 2, 5, 6, 7, 8, 9] rfl (CW.seq (CW.regionD (Sq.of [0, 1, 2, 3, 4, 5, 6, 7, 8, 9, 10, 11, 12, 13, 14, 15, 16, 19, 17, 18, 20, 21, 22, 23, 24, 25, 26]) [17, 18, 20, 21, 24] [17, 18] [0, 1, 2, 3, 4, 5, 6, 7, 8, 9, 10, 11, 12, 13, 14, 15, 16, 19, 22, 23, 25, 26] mixed (by kernel_rfl) ?_))))))))))
  refine RL.loadSTq Tryz.isAgg35 Tryz.sizeOf35 rfl rfl rfl rfl ?_
  refine RL.callvT (hgc) Tryz.call10 rfl rfl rfl rfl (lP _) (RL.loadSTq Tryz.isAgg43 Tryz.sizeOf43 rfl rfl rfl rfl ?_)
  refine RL.callvT (hrc) Tryz.call11 rfl rfl rfl rfl (lR _) (RL.p rfl (RL.p rfl ?_))
  apply RL.andB (d := 29) (dp := 33) (l' := (Sq.of [10, 11, 12, 13, 14, 15, 16, 19, 17, 18, 20, 21, 22, 23, 24, 25, 26])) rfl (sK [1, 7, 9] rfl)
  ·
    intro hb6 K6
    refine RL.p rfl (RL.p rfl (RL.cmp rfl rfl rfl rfl rfl (fun w => eql_txt tP tP w) ?_))
    refine RL.p rfl ?_
    exact K6 _ (.cons rfl (sK [1, 7, 9] rfl))
  ·
    intro hb6 K6
    refine RL.p rfl (RL.p rfl (RL.p rfl (RL.p rfl ?_)))
    exact K6 _ (.cons rfl (sK [1, 7, 9] rfl))
  refine RL.p rfl ?_
  apply RL.andB (d := 34) (dp := 38) (l' := (Sq.of [15, 16, 19, 17, 18, 20, 21, 22, 23, 24, 25, 26])) rfl (sK [1] rfl)
  ·
    intro hb11 K11
    refine RL.p rfl (RL.p rfl (RL.p rfl (RL.p rfl ?_)))
    exact K11 _ (.cons rfl (sK [1] rfl))
  ·
    intro hb11 K11
    refine RL.p rfl (RL.p rfl (RL.p rfl (RL.p rfl ?_)))
    exact K11 _ (.cons rfl (sK [1] rfl))
  refine RL.p rfl (RL.cast (d := 39) (v' := .bool true) rfl ((by simp)) ?_)
  refine RL.p rfl (RL.p rfl (RL.call (gplain_any seed) Tryz.call13 rfl rfl rfl rfl rfl (by repeat (first | exact Pick.nil | apply Pick.take | apply Pick.leave)) .nil (.inr rfl) ?_))
  rintro _ _ _ ⟨o3, c3, q3, d3, Y3, hY3, rfl, rfl, rfl⟩
  simp only [plT]
  have hp6 : (plainP seed).cf.L.length ≤ 12 := Nat.le_trans (plainL_len seed [] 6) (by decide)
  refine RL.call (lpl_any (plainP seed) o3 q3 c3 d3 _ _ Y3 rfl rfl hY3 rfl (plainC_rt seed) hp6 (by rw [plain_nz]; decide) (plain_z seed)) Tryz.call7 rfl rfl rfl rfl rfl (by repeat (first | exact Pick.nil | apply Pick.take | apply Pick.leave)) (Lend.own (by repeat (first | exact List.Mem.head _ | apply List.Mem.tail)) (Lend.own (by repeat (first | exact List.Mem.head _ | apply List.Mem.tail)) (lend_zT (.inl (by repeat (first | exact List.Mem.head _ | apply List.Mem.tail))) _ (fun _ h => h)))) (.inr rfl) ?_
  rintro _ _ _ ⟨o4, c4, q4, d4, Y4, hY4, rfl, rfl, rfl⟩
  simp only [plT]
  refine RL.call (rgplain_any seed) Tryz.call14 rfl rfl rfl rfl rfl (by repeat (first | exact Pick.nil | apply Pick.take | apply Pick.leave)) .nil (.inl rfl) ?_
  rintro _ _ _ ⟨o5, c5, q5, d5, Y5, hY5, rfl, rfl, rfl⟩
  simp only [plT]
  refine RL.callv (lsame_any (plainP seed) o4 q4 o5 q5 c4 d4 c5 d5 Y4 Y5 hY4 hY5 rfl (plainC_rt seed) (Nat.le_trans hp6 (by decide)) (by rw [plain_nz]; decide) (fun z hz => Nat.le_trans (plain_z seed z hz) (by decide))) Tryz.call12 rfl rfl rfl rfl (Lend.app (Lend.own (by repeat (first | exact List.Mem.head _ | apply List.Mem.tail)) (Lend.own (by repeat (first | exact List.Mem.head _ | apply List.Mem.tail)) (lend_zT (.inl (by repeat (first | exact List.Mem.head _ | apply List.Mem.tail))) _ (fun _ h => h)))) (Lend.own (by repeat (first | exact List.Mem.head _ | apply List.Mem.tail)) (Lend.own (by repeat (first | exact List.Mem.head _ | apply List.Mem.tail)) (lend_zT (.inl (by repeat (first | exact List.Mem.head _ | apply List.Mem.tail))) _ (fun _ h => h))))) ?_
  refine RL.p rfl (RL.p rfl ?_)
  apply RL.andB (d := 47) (dp := 49) (l' := (Sq.of [26])) rfl .nil
  ·
    intro hb24 K24
    refine RL.callv (works38) Tryz.call15 rfl rfl rfl rfl (.inI mG .nil) (RL.p rfl ?_)
    exact K24 _ (.cons rfl .nil)
  ·
    intro hb24 K24
    refine RL.p rfl (RL.p rfl ?_)
    exact K24 _ (.cons rfl .nil)
  refine RL.p rfl (RL.nil (NQ.seq (CW.ret ?_)))
  exact RQ.post (res1 rfl rfl) (Split.none _) ⟨rfl, rfl, rfl⟩
theorem gramPrints_call (W : World) (x : PlA) (seed : B8) (hx : rPl.ok x) (_ : rU8.ok seed) (tx : ∀ y ∈ rPl.its x, y.A W) (_ : ∀ y ∈ rU8.its seed, y.A W) (hv : gvI.A W) :
    Calls Tryz.prog 3 #[rPl.val x, rU8.val seed] W (fun e w' => e = .returned (.bool true) ∧ RowKit.Below W.heap.size W w') :=
  (lprints x hx seed).lawI (fun y hy => by
    rcases List.mem_cons.1 hy with rfl | hy
    · exact hv
    · exact tx y hy)
end Go.Proofs.YthndhipjfdgdfaaGreatDoor
