import Derived.Test.YtbdnebedmdoehaaU16
namespace Go.Proofs.Ytbdnebedmdoehaa
open Go.PK
/-! ### The example; SetupTells -/
theorem plainS_fit (seed : B8) (id kd : Int) : (plainS seed id kd).Fit := by
  refine ⟨by rw [plainS_rt]; exact rootB_len _ _, ?_, ?_, ?_⟩ <;> unfold plainS <;> (repeat' split) <;> simp [magS, aidS, noS, i64]
theorem plainL_fit (seed : B8) (gone : List Int) (i : Nat) : ∀ s ∈ plainL seed gone i, s.Fit := fun s hs => by
  obtain ⟨j, -, rfl⟩ := List.mem_map.1 hs
  exact plainS_fit _ _ _
theorem plainC_fit (seed : B8) (gone : List Int) : (plainC seed gone).Fit := ⟨rfl, plainL_fit _ _ _⟩
theorem ex_pick : pickS (fun s : Sr => s.kd == 2) (plainC 1#8 []).L = (plainS 1#8 1 2, true) := rfl
theorem ex_lim : limS (plainS 1#8 1 2) = 627065225216 := by decide
theorem ex_len : (plainC 1#8 []).L.length = 6 := rfl
theorem ex_ok : (plainC 1#8 []).ok = true := by decide
theorem ex_err : (plainC 1#8 []).err = 0 := by rw [Cf.err, ex_ok]; rfl
theorem works31 : Spc Try.prog 11 #[] [] [] (Is (.bool true)) := by
  have hl45 := fun sl => cf_len (plainC_fit 1#8 []).cm sl
  have hs48 := plainS_len 1#8 1 2
  refine Spc.enter Try.func11 rfl rfl rfl (fun w0 hw0 => ?_)
  refine CW.seq (CW.rg (RL.p rfl (RL.nil (NQ.seq (CW.seq (CW.ownNone (e := 3) 1 (CW.region (ef := [0, 1, 2]) (bk := [2]) (RL.call (splain_any 1#8 none 0 0 [] rfl (by omega)) Try.call6 rfl rfl rfl rfl rfl (by repeat (first | exact Pick.nil | apply Pick.take | apply Pick.leave)) (.own (ob := none) (cap := 0) (e := 3) (by repeat (first | exact List.Mem.head _ | apply List.Mem.tail)) .nil) (.inl rfl) ?_))))))))
  rintro _ _ _ ⟨ob, cp, rfl, rfl, rfl⟩
  refine RL.alloc Try.zeroValue33 rfl rfl rfl rfl rfl ?_
  intro b1
  refine RL.storeW Try.sizeOf33 rfl rfl rfl rfl rfl rfl rfl (cf_ones _ rfl) (by repeat (first | exact Upd.here | apply Upd.there)) (hl45 _) rfl ?_
  refine RL.nil (NQ.seq (CW.seq (CW.freezeP (A := [cel b1 ((plainC 1#8 []).cells (slO ob (plainC 1#8 []).L.length cp)) 33, own ob cp 57 48 (plainC 1#8 []).L.length ((plainC 1#8 []).L.flatMap Sr.cells)]) (B := [own none 0 3 1 0 []]) (by repeat (first | exact Pick.nil | apply Pick.take | apply Pick.leave)) rfl ?_)))
  refine CW.genI (fun J hJ => ?_)
  have mO : own ob cp 57 48 (plainC 1#8 []).L.length ((plainC 1#8 []).L.flatMap Sr.cells) ∈ J := hJ _ (List.Mem.tail _ (List.Mem.head _))
  have m1 : cel b1 ((plainC 1#8 []).cells (slO ob (plainC 1#8 []).L.length cp)) 33 ∈ J := hJ _ (List.Mem.head _)
  clear hJ
  have fA : RdsN J ⟨b1, 0, none⟩ 45 ((plainC 1#8 []).cells (slO ob (plainC 1#8 []).L.length cp)) := ⟨fun _ => Rds.allI m1, hl45 _⟩
  have fS : RdI J ⟨b1, 0 + 0, none⟩ (slO ob (plainC 1#8 []).L.length cp) := ⟨fun _ => Rd.celI m1 rfl⟩
  have hof := cof_any (plainC 1#8 []) ob cp _ 2 rfl (plainC_fit 1#8 []) (by rw [ex_len]; decide)
  rw [ex_pick] at hof
  have hck := ccheck_any (plainC 1#8 []) ob cp _ rfl (plainC_fit 1#8 []) (by rw [ex_len]; decide)
  rw [ex_err] at hck
  have hlm := limit_any (plainS 1#8 1 2) (plainS_fit _ _ _)
  rw [ex_lim] at hlm
  refine CW.region (ef := [5, 6]) (bk := [6]) (RL.loadSq Try.isAgg33 Try.sizeOf33 rfl rfl rfl rfl ?_)
  refine RL.callv (hof) Try.call15 rfl rfl rfl rfl (Lend.ownI mO .nil) (RL.p rfl (RL.p rfl (RL.p rfl (RL.alloc Try.zeroValue57 rfl rfl rfl rfl rfl ?_))))
  intro b2
  refine RL.storeW Try.sizeOf57 rfl rfl rfl rfl rfl rfl rfl (sr_ones _) (by repeat (first | exact Upd.here | apply Upd.there)) hs48 rfl ?_
  refine RL.p rfl (RL.nil (NQ.seq (CW.ok [1, 2, 3] rfl (CW.seq (CW.freezeP (A := [cel b2 (plainS 1#8 1 2).cells 57]) (B := [own none 0 3 1 0 []]) (by repeat (first | exact Pick.nil | apply Pick.take | apply Pick.leave)) rfl ?_)))))
  refine CW.genI (fun J2 hJ => ?_)
  have hJ2 : ∀ x ∈ J, x ∈ J2 := fun x hx => hJ x (by simp [hx])
  have m2 : cel b2 (plainS 1#8 1 2).cells 57 ∈ J2 := hJ _ (List.Mem.head _)
  have mO2 := hJ2 _ mO
  clear hJ fA fS
  have fA : RdsN J2 ⟨b1, 0, none⟩ 45 ((plainC 1#8 []).cells (slO ob (plainC 1#8 []).L.length cp)) := ⟨fun _ => Rds.allI (hJ2 _ m1), hl45 _⟩
  have fS : RdI J2 ⟨b1, 0 + 0, none⟩ (slO ob (plainC 1#8 []).L.length cp) := ⟨fun _ => Rd.celI (hJ2 _ m1) rfl⟩
  have fI : RdI J2 ⟨b2, 0 + 0, none⟩ (.int .i64 1) := ⟨fun _ => Rd.celI m2 rfl⟩
  have fB : RdsN J2 ⟨b2, 0, none⟩ 48 (plainS 1#8 1 2).cells := ⟨fun _ => Rds.allI m2, hs48⟩
  refine CW.rg (RL.loadSq Try.isAgg33 Try.sizeOf33 rfl rfl rfl rfl ?_)
  refine RL.callv (hck) Try.call9 rfl rfl rfl rfl (Lend.ownI mO2 .nil) (RL.p rfl (RL.p rfl ?_))
  apply RL.andB (d := 13) (dp := 15) (l' := (Sq.of [6, 7, 8, 9, 10, 11, 12, 13, 14, 15, 16, 17, 18, 19, 20, 21, 22])) rfl (sK [1, 2] rfl)
  ·
    intro hb4 K4
    refine RL.p rfl (RL.p rfl ?_)
    exact K4 _ (.cons rfl (sK [1, 2] rfl))
  ·
    intro hb4 K4
    refine RL.p rfl (RL.p rfl ?_)
    exact K4 _ (.cons rfl (sK [1, 2] rfl))
  refine RL.p rfl ?_
  apply RL.andB (d := 16) (dp := 20) (l' := (Sq.of [11, 12, 13, 14, 15, 16, 17, 18, 19, 20, 21, 22])) rfl (sK [1, 2] rfl)
  ·
    intro hb7 K7
    refine RL.fieldAddr fa_57_0 rfl rfl rfl rfl (RL.loadq Try.isAgg3 rfl rfl rfl rfl ?_)
    refine RL.p rfl (RL.p rfl ?_)
    exact K7 _ (.cons rfl (sK [1, 2] rfl))
  ·
    intro hb7 K7
    refine RL.p rfl (RL.p rfl (RL.p rfl (RL.p rfl ?_)))
    exact K7 _ (.cons rfl (sK [1, 2] rfl))
  refine RL.p rfl ?_
  apply RL.andB (d := 21) (dp := 25) (l' := (Sq.of [16, 17, 18, 19, 20, 21, 22])) rfl (sK [1] rfl)
  ·
    intro hb12 K12
    refine RL.loadSq Try.isAgg57 Try.sizeOf57 rfl rfl rfl rfl ?_
    refine RL.callvq (hlm) Try.call22 rfl rfl rfl rfl ?_
    refine RL.p rfl (RL.p rfl ?_)
    exact K12 _ (.cons rfl (sK [1] rfl))
  ·
    intro hb12 K12
    refine RL.p rfl (RL.p rfl (RL.p rfl (RL.p rfl ?_)))
    exact K12 _ (.cons rfl (sK [1] rfl))
  refine RL.p rfl ?_
  apply RL.andB (d := 26) (dp := 31) (l' := (Sq.of [22])) rfl .nil
  ·
    intro hb17 K17
    refine RL.fieldAddr fa_33_0 rfl rfl rfl rfl (RL.loadq Try.isAgg23 rfl rfl rfl rfl ?_)
    refine RL.lenS Try.runUnderlying23 rfl rfl rfl rfl (RL.p rfl (RL.p rfl ?_))
    exact K17 _ (.cons rfl .nil)
  ·
    intro hb17 K17
    refine RL.p rfl (RL.p rfl (RL.p rfl (RL.p rfl (RL.p rfl ?_))))
    exact K17 _ (.cons rfl .nil)
  refine RL.p rfl (RL.nil (NQ.seq (CW.ret ?_)))
  exact RQ.post (res1 rfl rfl) (Split.none _) ⟨rfl, rfl, rfl⟩
end Go.Proofs.Ytbdnebedmdoehaa
