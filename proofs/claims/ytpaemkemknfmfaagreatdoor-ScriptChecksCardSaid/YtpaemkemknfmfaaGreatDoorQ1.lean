import Derived.Test.YtpaemkemknfmfaaGreatDoorWB
import Derived.Test.YtpaemkemknfmfaaGreatDoorVB
import Derived.Test.YtpaemkemknfmfaaGreatDoorEM2
set_option linter.unusedVariables false
set_option linter.unusedSimpArgs false
namespace Go.Proofs.YtpaemkemknfmfaaGreatDoor
open Go.PK
/-! ### ScriptChecks -/
theorem lchecks (t : Tx) : Spc Tryz.prog 3 #[strV t] [gvI] [] (Is (.bool true)) := by
  have h1 := scheck_any t
  have h2 := rcheck_any t
  unfold chkV at h1 h2
  generalize chkT t = r at h1 h2
  obtain ⟨k, e⟩ := r
  simp only at h1 h2
  refine Spc.enter Tryz.func3 rfl rfl rfl (fun w0 hw0 => ?_)
  refine CW.seq (CW.rg (RL.p rfl (RL.nil (NQ.seq (CW.seq (CW.region (ef := [1]) (bk := []) (RL.p rfl (RL.callv (h1) Tryz.call4 rfl rfl rfl rfl (.inI (by simp) .nil) ?_))))))))
  refine RL.p rfl (RL.p rfl (RL.p rfl (RL.p rfl (RL.p rfl (RL.nil (NQ.seq (CW.ok [0, 3, 4] rfl (CW.seq (CW.rg (RL.p rfl (RL.callvq (h2) Tryz.call5 rfl rfl rfl rfl ?_)))))))))))
  refine RL.p rfl (RL.p rfl (RL.p rfl (RL.p rfl (RL.p rfl (RL.nil (NQ.seq (CW.ok [3, 4, 5, 6] rfl (CW.seq (CW.rg (RL.p rfl (RL.p rfl (RL.p rfl (RL.p rfl ?_)))))))))))))
  apply RL.andB (d := 20) (dp := 24) (l' := (Sq.of [8, 9, 10, 11])) rfl .nil
  ·
    intro hb4 K4
    refine RL.p rfl (RL.p rfl (RL.p rfl (RL.p rfl ?_)))
    exact K4 _ (.cons rfl .nil)
  ·
    intro hb4 K4
    refine RL.p rfl (RL.p rfl (RL.p rfl (RL.p rfl ?_)))
    exact K4 _ (.cons rfl .nil)
  refine RL.p rfl ?_
  apply RL.andB (d := 25) (dp := 27) (l' := (Sq.of [11])) rfl .nil
  ·
    intro hb9 K9
    refine RL.callvq (works34) Tryz.call6 rfl rfl rfl rfl ?_
    refine RL.p rfl ?_
    exact K9 _ (.cons rfl .nil)
  ·
    intro hb9 K9
    refine RL.p rfl (RL.p rfl ?_)
    exact K9 _ (.cons rfl .nil)
  refine RL.p rfl (RL.nil (NQ.seq (CW.ret ?_)))
  exact RQ.post (res1 rfl rfl) (Split.none _) ⟨by simp, rfl, rfl⟩
noncomputable def rText : Rdr Tryz.prog 9 (List B8) := Rdr.text (by kernel_rfl) (by kernel_rfl)
theorem scriptChecks_call (W : World) (t : Tx) (ht : rText.ok t) (_ : ∀ y ∈ rText.its t, y.A W) (hv : gvI.A W) :
    Calls Tryz.prog 3 #[rText.val t] W (fun e w' => e = .returned (.bool true) ∧ RowKit.Below W.heap.size W w') :=
  (lchecks t).lawI (fun y hy => by
    rw [List.mem_singleton.1 hy]; exact hv)
end Go.Proofs.YtpaemkemknfmfaaGreatDoor
