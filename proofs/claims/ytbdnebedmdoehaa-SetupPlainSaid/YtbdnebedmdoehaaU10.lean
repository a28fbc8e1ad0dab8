import Derived.Test.YtbdnebedmdoehaaU9
namespace Go.Proofs.Ytbdnebedmdoehaa
open Go.PK
/-! ### Find, Of -/
def FndV (r : Sr × Bool) : Value := .tuple #[.agg r.1.cells.toArray, .bool r.2]
theorem zero48 : zeroS.cells = [.int .i64 0, .int .i64 0, .int .u8 0, .int .u8 0, .int .u8 0, .int .u8 0, .int .u8 0, .int .u8 0, .int .u8 0, .int .u8 0, .int .u8 0, .int .u8 0, .int .u8 0, .int .u8 0, .int .u8 0, .int .u8 0, .int .u8 0, .int .u8 0, .int .u8 0, .int .u8 0, .int .u8 0, .int .u8 0, .int .u8 0, .int .u8 0, .int .u8 0, .int .u8 0, .int .u8 0, .int .u8 0, .int .u8 0, .int .u8 0, .int .u8 0, .int .u8 0, .int .u8 0, .int .u8 0, .int .i64 0, .int .i64 0, .int .i64 0, .int .i64 0, .int .i64 0, .int .i64 0, .int .i64 0, .int .i64 0, .int .i64 0, .int .i64 0, .int .i64 0, .int .i64 0, .int .i64 0, .int .i64 0] := rfl
theorem find_first (oa : Option Nat) (ca m : Nat) (L : List Sr) (hm : L.length = m) (hL : ∀ s ∈ L, s.Fit) (hl : m ≤ 1000000) (b : Nat) (n : Int) : Spc Try.prog 46 #[slO oa m ca, .func (.func 47) #[] #[.pointer (some ⟨b, 0, none⟩)]]
    [sls (oa.map fun b => ⟨b, 0, none⟩) 48 m (L.flatMap Sr.cells), cel b [.int .i64 n] 3] [] (Is (FndV (pickS (fun s => (fun s : Sr => s.id == n) s) L))) := by
  have hidx := find_idx oa ca m L hm hL hl b n
  subst hm
  have hLl : ∀ s ∈ L, s.cells.length = 48 := fun s hs => sr_len (hL s hs).rt
  rcases pick_of_idx (p := fun s => (fun s : Sr => s.id == n) s) (L := L) with ⟨h1, h2⟩ | ⟨i, s, hx, h1, h2⟩
  · rw [h1] at hidx
    rw [h2]
    refine Spc.enter Try.func46 rfl rfl rfl (fun w0 hw0 => ?_)
    refine CW.seq (CW.region (ef := [0]) (bk := []) (RL.alloc Try.zeroValue57 rfl rfl rfl rfl rfl ?_))
    intro b1
    refine RL.p rfl (RL.nil (NQ.seq (CW.seq (CW.rg (RL.p rfl (RL.p rfl (RL.callv (hidx) Try.call77 rfl rfl rfl rfl (.inI (List.Mem.head _) (.inI (List.Mem.tail _ (List.Mem.head _)) .nil)) (RL.p rfl (RL.nil (NQ.seq (CW.seq (CW.seq (CW.rg ?_)))))))))))))
    refine RL.p rfl (RL.p rfl (RL.nil (NQ.seq (CW.condT rfl ((by decide)) ?_))))
    refine CW.seq (CW.region (ef := [1]) (bk := [1]) (RL.buildS _ Try.zeroValue57 pl_57 rfl rfl rfl rfl rfl (RL.storeWq Try.sizeOf57 rfl rfl rfl rfl rfl rfl rfl ?_)))
    refine RL.p rfl (RL.nil (NQ.seq (CW.ok [0, 4, 5, 6] rfl (CW.ret (RQ.seq ?_)))))
    exact RQ.post (resWT rfl rfl rfl Try.isAgg57 Try.sizeOf57 (by repeat (first | exact List.Mem.head _ | apply List.Mem.tail)) rfl) (Split.none _) ⟨rfl, rfl, rfl⟩
  · rw [h1] at hidx
    rw [h2]
    have hlt : i < L.length := (List.getElem?_eq_some_iff.1 hx).1
    have hsl := hLl s (List.mem_of_getElem? hx)
    refine Spc.enter Try.func46 rfl rfl rfl (fun w0 hw0 => ?_)
    refine CW.seq (CW.region (ef := [0]) (bk := []) (RL.alloc Try.zeroValue57 rfl rfl rfl rfl rfl ?_))
    intro b1
    refine RL.p rfl (RL.nil (NQ.seq (CW.seq (CW.rg (RL.p rfl (RL.p rfl (RL.callv (hidx) Try.call77 rfl rfl rfl rfl (.inI (List.Mem.head _) (.inI (List.Mem.tail _ (List.Mem.head _)) .nil)) (RL.p rfl (RL.nil (NQ.seq (CW.seq (CW.seq (CW.rg ?_)))))))))))))
    refine RL.p rfl (RL.p rfl (RL.nil (NQ.seq ?_)))
    refine CW.genI (fun J hJ => ?_)
    have m2 : sls (oa.map fun b => ⟨b, 0, none⟩) 48 L.length (L.flatMap Sr.cells) ∈ J := hJ _ (by simp)
    clear hJ
    refine CW.fact (p := oa = none → L.length = 0) (fun w hC e => sls_nil (hC.s.i _ m2) (by rw [e]; rfl)) (fun hpa => ?_)
    cases oa with
    | none => exact absurd (hpa rfl) (by omega)
    | some ba =>
    have fA : RdsN J ⟨ba, 0 + i * 48, none⟩ 48 s.cells := flat_rdsN (f := Sr.cells) m2 hx hLl
    refine CW.condF rfl ((by simp)) ?_
    refine CW.skip (NQ.seq (CW.ok [0, 4, 6] rfl (CW.seq (CW.region (ef := [4]) (bk := [4]) (RL.p rfl (RL.p rfl (RL.idxAt (j := i) Try.runUnderlying23 Try.sizeOf57 rfl rfl rfl rfl rfl rfl (hlt) (RL.loadSq Try.isAgg57 Try.sizeOf57 rfl rfl rfl rfl ?_))))))))
    refine RL.storeW Try.sizeOf57 rfl rfl rfl rfl rfl rfl rfl (sr_ones s) (by repeat (first | exact Upd.here | apply Upd.there)) hsl rfl ?_
    refine RL.p rfl (RL.nil (NQ.seq (CW.ok [4, 5] rfl (CW.ret ?_))))
    exact RQ.post (resWT rfl rfl rfl Try.isAgg57 Try.sizeOf57 (by repeat (first | exact List.Mem.head _ | apply List.Mem.tail)) hsl) (Split.none _) ⟨rfl, rfl, rfl⟩
theorem cfind_any (c : Cf) (oa : Option Nat) (ca m : Nat) (n : Int) (hm : c.L.length = m) (hc : c.Fit) (hl : m ≤ 1000000) :
    Spc Try.prog 13 #[.agg (c.cells (slO oa m ca)).toArray, .int .i64 n] [sls (oa.map fun b => ⟨b, 0, none⟩) 48 m (c.L.flatMap Sr.cells)] [] (Is (FndV (pickS (fun s => (fun s : Sr => s.id == n) s) c.L))) := by
  subst hm
  have hfit : (pickS (fun s => (fun s : Sr => s.id == n) s) c.L).1.cells.length = 48 := sr_len (pickS_fit hc.L).rt
  have hfst := fun b => find_first oa ca _ c.L rfl hc.L hl b n
  generalize pickS (fun s => (fun s : Sr => s.id == n) s) c.L = r at hfit hfst ⊢
  refine Spc.enter Try.func13 rfl rfl rfl (fun w0 hw0 => ?_)
  refine CW.seq (CW.region (ef := [0, 1, 2]) (bk := []) (RL.box rfl rfl rfl rfl rfl rfl ?_))
  intro b1
  refine RL.box rfl rfl rfl rfl rfl rfl ?_
  intro b2
  refine RL.alloc Try.zeroValue57 rfl rfl rfl rfl rfl ?_
  intro b3
  refine RL.p rfl (RL.nil (NQ.seq (CW.seq (CW.freezeP (A := [cel b2 [.int .i64 n] 3, cel b1 (c.cells (slO oa c.L.length ca)) 33]) (B := [cel b3 [.int .i64 0, .int .i64 0, .int .u8 0, .int .u8 0, .int .u8 0, .int .u8 0, .int .u8 0, .int .u8 0, .int .u8 0, .int .u8 0, .int .u8 0, .int .u8 0, .int .u8 0, .int .u8 0, .int .u8 0, .int .u8 0, .int .u8 0, .int .u8 0, .int .u8 0, .int .u8 0, .int .u8 0, .int .u8 0, .int .u8 0, .int .u8 0, .int .u8 0, .int .u8 0, .int .u8 0, .int .u8 0, .int .u8 0, .int .u8 0, .int .u8 0, .int .u8 0, .int .u8 0, .int .u8 0, .int .i64 0, .int .i64 0, .int .i64 0, .int .i64 0, .int .i64 0, .int .i64 0, .int .i64 0, .int .i64 0, .int .i64 0, .int .i64 0, .int .i64 0, .int .i64 0, .int .i64 0, .int .i64 0] 57]) (by repeat (first | exact Pick.nil | apply Pick.take | apply Pick.leave)) rfl ?_))))
  refine CW.genI (fun J hJ => ?_)
  have m1 : cel b1 (c.cells (slO oa c.L.length ca)) 33 ∈ J := hJ _ (List.Mem.tail _ (List.Mem.head _))
  have mC : cel b2 [.int .i64 n] 3 ∈ J := hJ _ (List.Mem.head _)
  have m2 : sls (oa.map fun b => ⟨b, 0, none⟩) 48 c.L.length (c.L.flatMap Sr.cells) ∈ J := hJ _ (List.Mem.tail _ (List.Mem.tail _ (List.Mem.head _)))
  clear hJ
  have fS : RdI J ⟨b1, 0 + 0, none⟩ (slO oa c.L.length ca) := ⟨fun _ => Rd.celI m1 rfl⟩
  refine CW.region (ef := [6]) (bk := [6]) (RL.fieldAddr fa_33_0 rfl rfl rfl rfl (RL.loadq Try.isAgg23 rfl rfl rfl rfl ?_))
  refine RL.makeFunc rfl rfl rfl rfl rfl (RL.callv (hfst b2) Try.call46 rfl rfl rfl rfl (.inI m2 (.inI mC .nil)) (RL.p rfl (RL.p rfl (RL.storeW Try.sizeOf57 rfl rfl rfl rfl rfl rfl rfl (sr_ones r.1) (by repeat (first | exact Upd.here | apply Upd.there)) hfit rfl ?_))))
  refine RL.p rfl (RL.nil (NQ.seq (CW.ok [4, 5] rfl (CW.ret ?_))))
  exact RQ.post (resWT rfl rfl rfl Try.isAgg57 Try.sizeOf57 (by repeat (first | exact List.Mem.head _ | apply List.Mem.tail)) hfit) (Split.none _) ⟨rfl, rfl, rfl⟩
theorem rcfind_any (c : Cf) (oa : Option Nat) (ca m : Nat) (n : Int) (hm : c.L.length = m) (hc : c.Fit) (hl : m ≤ 1000000) :
    Spc Try.prog 14 #[.agg (c.cells (slO oa m ca)).toArray, .int .i64 n] [sls (oa.map fun b => ⟨b, 0, none⟩) 48 m (c.L.flatMap Sr.cells)] [] (Is (FndV (pickS (fun s => (fun s : Sr => s.id == n) s) c.L))) := by
  subst hm
  have hLl : ∀ s ∈ c.L, s.cells.length = 48 := fun s hs => sr_len (hc.L s hs).rt
  refine Spc.enter Try.func14 rfl rfl rfl (fun w0 hw0 => ?_)
  refine CW.seq (CW.region (ef := [0, 1]) (bk := []) (RL.box rfl rfl rfl rfl rfl rfl ?_))
  intro b1
  refine RL.alloc Try.zeroValue46 rfl rfl rfl rfl rfl ?_
  intro b2
  refine RL.p rfl (RL.nil (NQ.seq (CW.seq (CW.seq (CW.freezeP (A := [cel b1 (c.cells (slO oa c.L.length ca)) 38]) (B := [cel b2 [.int .i64 0, .int .i64 0, .int .u8 0, .int .u8 0, .int .u8 0, .int .u8 0, .int .u8 0, .int .u8 0, .int .u8 0, .int .u8 0, .int .u8 0, .int .u8 0, .int .u8 0, .int .u8 0, .int .u8 0, .int .u8 0, .int .u8 0, .int .u8 0, .int .u8 0, .int .u8 0, .int .u8 0, .int .u8 0, .int .u8 0, .int .u8 0, .int .u8 0, .int .u8 0, .int .u8 0, .int .u8 0, .int .u8 0, .int .u8 0, .int .u8 0, .int .u8 0, .int .u8 0, .int .u8 0, .int .i64 0, .int .i64 0, .int .i64 0, .int .i64 0, .int .i64 0, .int .i64 0, .int .i64 0, .int .i64 0, .int .i64 0, .int .i64 0, .int .i64 0, .int .i64 0, .int .i64 0, .int .i64 0] 46]) (by repeat (first | exact Pick.nil | apply Pick.take | apply Pick.leave)) rfl ?_)))))
  refine CW.genI (fun J hJ => ?_)
  have m1 : cel b1 (c.cells (slO oa c.L.length ca)) 38 ∈ J := hJ _ (List.Mem.head _)
  have m2 : sls (oa.map fun b => ⟨b, 0, none⟩) 48 c.L.length (c.L.flatMap Sr.cells) ∈ J := hJ _ (List.Mem.tail _ (List.Mem.head _))
  clear hJ
  have fS : RdI J ⟨b1, 0 + 0, none⟩ (slO oa c.L.length ca) := ⟨fun _ => Rd.celI m1 rfl⟩
  refine CW.rg (RL.p rfl (RL.nil (NQ.seq (CW.block (CW.loop (γ := Nat) (fun i => i ≤ c.L.length ∧ (∀ j < i, ∀ s, c.L[j]? = some s → ((fun s : Sr => s.id == n) s) = false)) (fun i => [(1, .int .i64 n), (2, .pointer (some ⟨b1, 0, none⟩)), (4, .pointer (some ⟨b2, 0, none⟩)), (6, .int .i64 (i : Int))]) (fun _ => J) (fun _ => [cel b2 [.int .i64 0, .int .i64 0, .int .u8 0, .int .u8 0, .int .u8 0, .int .u8 0, .int .u8 0, .int .u8 0, .int .u8 0, .int .u8 0, .int .u8 0, .int .u8 0, .int .u8 0, .int .u8 0, .int .u8 0, .int .u8 0, .int .u8 0, .int .u8 0, .int .u8 0, .int .u8 0, .int .u8 0, .int .u8 0, .int .u8 0, .int .u8 0, .int .u8 0, .int .u8 0, .int .u8 0, .int .u8 0, .int .u8 0, .int .u8 0, .int .u8 0, .int .u8 0, .int .u8 0, .int .u8 0, .int .i64 0, .int .i64 0, .int .i64 0, .int .i64 0, .int .i64 0, .int .i64 0, .int .i64 0, .int .i64 0, .int .i64 0, .int .i64 0, .int .i64 0, .int .i64 0, .int .i64 0, .int .i64 0] 46]) (fun i => c.L.length - i) 0 ⟨Nat.zero_le _, fun j h => by omega⟩ (.cons rfl (.cons rfl (.cons rfl (.cons rfl .nil)))) (fun w h => h.rea (fun _ h => h) (by repeat (first | exact Rea.nil | (apply Rea.cons; (solve | (repeat (first | exact Del.here | apply Del.there))))))) ?_)))))
  rintro i ⟨hi, hok⟩
  refine CW.fact (p := oa = none → c.L.length = 0) (fun w hC e => sls_nil (hC.s.i _ m2) (by rw [e]; rfl)) (fun hpa => ?_)
  refine CW.seq (CW.seq (CW.rg (RL.p rfl (RL.fieldAddr fa_38_0 rfl rfl rfl rfl (RL.loadq Try.isAgg35 rfl rfl rfl rfl ?_)))))
  refine RL.lenS Try.runUnderlying35 rfl rfl rfl rfl (RL.p rfl (RL.nil (NQ.seq ?_)))
  refine CW.cond rfl (fun hlt => ?_) (fun hlt => ?_)
  ·
    have hlt : i < c.L.length := by simp at hlt; omega
    cases oa with
    | none => exact absurd (hpa rfl) (by omega)
    | some ba =>
    have hx := List.getElem?_eq_getElem hlt
    generalize c.L[i] = s at hx
    have hsl := hLl s (List.mem_of_getElem? hx)
    have fA : RdsN J ⟨ba, 0 + i * 48, none⟩ 48 s.cells := flat_rdsN (f := Sr.cells) m2 hx hLl
    have fI : RdI J ⟨ba, 0 + i * 48 + 0, none⟩ (.int .i64 s.id) := flat_rdI (f := Sr.cells) m2 hx hLl rfl
    refine CW.skip (NQ.seq (CW.seq (CW.block (CW.seq (CW.rg (RL.fieldAddr fa_38_0 rfl rfl rfl rfl (RL.loadq Try.isAgg35 rfl rfl rfl rfl ?_)))))))
    refine RL.p rfl (RL.idxAt (j := i) Try.runUnderlying35 Try.sizeOf46 rfl rfl rfl rfl rfl rfl (hlt) (RL.fieldAddr fa_46_0 rfl rfl rfl rfl (RL.loadq Try.isAgg3 rfl rfl rfl rfl ?_)))
    refine RL.p rfl (RL.p rfl (RL.nil (NQ.seq (CW.ok [1, 2, 4, 6, 21] rfl ?_))))
    refine CW.cond rfl (fun hp => ?_) (fun hp => ?_)
    ·
      refine CW.seq (CW.region (ef := [5]) (bk := [5]) (RL.fieldAddr fa_38_0 rfl rfl rfl rfl (RL.loadq Try.isAgg35 rfl rfl rfl rfl ?_)))
      refine RL.p rfl (RL.idxAt (j := i) Try.runUnderlying35 Try.sizeOf46 rfl rfl rfl rfl rfl rfl (hlt) (RL.loadSq Try.isAgg46 Try.sizeOf46 rfl rfl rfl rfl ?_))
      refine RL.storeW Try.sizeOf46 rfl rfl rfl rfl rfl rfl rfl (sr_ones s) (by repeat (first | exact Upd.here | apply Upd.there)) hsl rfl ?_
      refine RL.p rfl (RL.nil (NQ.seq (CW.ok [1, 2, 4, 5, 6] rfl (CW.ret (RQ.block (RQ.seq (RQ.seq (RQ.block (RQ.seq ?_)))))))))
      exact RQ.post (resWT rfl rfl rfl Try.isAgg46 Try.sizeOf46 (by repeat (first | exact List.Mem.head _ | apply List.Mem.tail)) hsl) (Split.none _) ⟨by rw [pickS_yes hx hp hok]; rfl, rfl, rfl⟩
    ·
      refine CW.skip (NQ.block (NQ.seq (CW.rg (RL.p rfl (RL.bx rfl (wrapV_i64 (by omega) (by omega)) ?_)))))
      refine RL.p rfl (RL.nil ?_)
      refine NQ.round (g := i) (i + 1) ⟨hlt, fun j hj s' hs' => ?_⟩ (by show c.L.length - (i + 1) < c.L.length - i; omega) (.cons rfl (.cons rfl (.cons rfl (.cons rfl .nil)))) (fun w h => h.rea (fun _ h => h) (by repeat (first | exact Rea.nil | (apply Rea.cons; (solve | (repeat (first | exact Del.here | apply Del.there)))))))
      rcases Nat.lt_succ_iff_lt_or_eq.1 hj with hj | rfl
      · exact hok j hj s' hs'
      · rw [hx] at hs'; cases hs'; exact hp
  ·
    have hin : i = c.L.length := by simp at hlt; omega
    subst hin
    refine CW.exit (XQ.seq (XQ.seq (XQ.hit (NQ.seq (CW.ok [4] rfl (CW.seq (CW.region (ef := [1]) (bk := [1]) (RL.buildS _ Try.zeroValue46 pl_46 rfl rfl rfl rfl rfl (RL.storeWq Try.sizeOf46 rfl rfl rfl rfl rfl rfl rfl ?_)))))))))
    refine RL.p rfl (RL.nil (NQ.seq (CW.ret ?_)))
    exact RQ.post (resWT rfl rfl rfl Try.isAgg46 Try.sizeOf46 (by repeat (first | exact List.Mem.head _ | apply List.Mem.tail)) rfl) (Split.none _) ⟨by rw [pickS_no hok]; rfl, rfl, rfl⟩
theorem of_first (oa : Option Nat) (ca m : Nat) (L : List Sr) (hm : L.length = m) (hL : ∀ s ∈ L, s.Fit) (hl : m ≤ 1000000) (b : Nat) (n : Int) : Spc Try.prog 46 #[slO oa m ca, .func (.func 48) #[] #[.pointer (some ⟨b, 0, none⟩)]]
    [sls (oa.map fun b => ⟨b, 0, none⟩) 48 m (L.flatMap Sr.cells), cel b [.int .i64 n] 3] [] (Is (FndV (pickS (fun s => (fun s : Sr => s.kd == n) s) L))) := by
  have hidx := of_idx oa ca m L hm hL hl b n
  subst hm
  have hLl : ∀ s ∈ L, s.cells.length = 48 := fun s hs => sr_len (hL s hs).rt
  rcases pick_of_idx (p := fun s => (fun s : Sr => s.kd == n) s) (L := L) with ⟨h1, h2⟩ | ⟨i, s, hx, h1, h2⟩
  · rw [h1] at hidx
    rw [h2]
    refine Spc.enter Try.func46 rfl rfl rfl (fun w0 hw0 => ?_)
    refine CW.seq (CW.region (ef := [0]) (bk := []) (RL.alloc Try.zeroValue57 rfl rfl rfl rfl rfl ?_))
    intro b1
    refine RL.p rfl (RL.nil (NQ.seq (CW.seq (CW.rg (RL.p rfl (RL.p rfl (RL.callv (hidx) Try.call77 rfl rfl rfl rfl (.inI (List.Mem.head _) (.inI (List.Mem.tail _ (List.Mem.head _)) .nil)) (RL.p rfl (RL.nil (NQ.seq (CW.seq (CW.seq (CW.rg ?_)))))))))))))
    refine RL.p rfl (RL.p rfl (RL.nil (NQ.seq (CW.condT rfl ((by decide)) ?_))))
    refine CW.seq (CW.region (ef := [1]) (bk := [1]) (RL.buildS _ Try.zeroValue57 pl_57 rfl rfl rfl rfl rfl (RL.storeWq Try.sizeOf57 rfl rfl rfl rfl rfl rfl rfl ?_)))
    refine RL.p rfl (RL.nil (NQ.seq (CW.ok [0, 4, 5, 6] rfl (CW.ret (RQ.seq ?_)))))
    exact RQ.post (resWT rfl rfl rfl Try.isAgg57 Try.sizeOf57 (by repeat (first | exact List.Mem.head _ | apply List.Mem.tail)) rfl) (Split.none _) ⟨rfl, rfl, rfl⟩
  · rw [h1] at hidx
    rw [h2]
    have hlt : i < L.length := (List.getElem?_eq_some_iff.1 hx).1
    have hsl := hLl s (List.mem_of_getElem? hx)
    refine Spc.enter Try.func46 rfl rfl rfl (fun w0 hw0 => ?_)
    refine CW.seq (CW.region (ef := [0]) (bk := []) (RL.alloc Try.zeroValue57 rfl rfl rfl rfl rfl ?_))
    intro b1
    refine RL.p rfl (RL.nil (NQ.seq (CW.seq (CW.rg (RL.p rfl (RL.p rfl (RL.callv (hidx) Try.call77 rfl rfl rfl rfl (.inI (List.Mem.head _) (.inI (List.Mem.tail _ (List.Mem.head _)) .nil)) (RL.p rfl (RL.nil (NQ.seq (CW.seq (CW.seq (CW.rg ?_)))))))))))))
    refine RL.p rfl (RL.p rfl (RL.nil (NQ.seq ?_)))
    refine CW.genI (fun J hJ => ?_)
    have m2 : sls (oa.map fun b => ⟨b, 0, none⟩) 48 L.length (L.flatMap Sr.cells) ∈ J := hJ _ (by simp)
    clear hJ
    refine CW.fact (p := oa = none → L.length = 0) (fun w hC e => sls_nil (hC.s.i _ m2) (by rw [e]; rfl)) (fun hpa => ?_)
    cases oa with
    | none => exact absurd (hpa rfl) (by omega)
    | some ba =>
    have fA : RdsN J ⟨ba, 0 + i * 48, none⟩ 48 s.cells := flat_rdsN (f := Sr.cells) m2 hx hLl
    refine CW.condF rfl ((by simp)) ?_
    refine CW.skip (NQ.seq (CW.ok [0, 4, 6] rfl (CW.seq (CW.region (ef := [4]) (bk := [4]) (RL.p rfl (RL.p rfl (RL.idxAt (j := i) Try.runUnderlying23 Try.sizeOf57 rfl rfl rfl rfl rfl rfl (hlt) (RL.loadSq Try.isAgg57 Try.sizeOf57 rfl rfl rfl rfl ?_))))))))
    refine RL.storeW Try.sizeOf57 rfl rfl rfl rfl rfl rfl rfl (sr_ones s) (by repeat (first | exact Upd.here | apply Upd.there)) hsl rfl ?_
    refine RL.p rfl (RL.nil (NQ.seq (CW.ok [4, 5] rfl (CW.ret ?_))))
    exact RQ.post (resWT rfl rfl rfl Try.isAgg57 Try.sizeOf57 (by repeat (first | exact List.Mem.head _ | apply List.Mem.tail)) hsl) (Split.none _) ⟨rfl, rfl, rfl⟩
theorem cof_any (c : Cf) (oa : Option Nat) (ca m : Nat) (n : Int) (hm : c.L.length = m) (hc : c.Fit) (hl : m ≤ 1000000) :
    Spc Try.prog 15 #[.agg (c.cells (slO oa m ca)).toArray, .int .i64 n] [sls (oa.map fun b => ⟨b, 0, none⟩) 48 m (c.L.flatMap Sr.cells)] [] (Is (FndV (pickS (fun s => (fun s : Sr => s.kd == n) s) c.L))) := by
  subst hm
  have hfit : (pickS (fun s => (fun s : Sr => s.kd == n) s) c.L).1.cells.length = 48 := sr_len (pickS_fit hc.L).rt
  have hfst := fun b => of_first oa ca _ c.L rfl hc.L hl b n
  generalize pickS (fun s => (fun s : Sr => s.kd == n) s) c.L = r at hfit hfst ⊢
  refine Spc.enter Try.func15 rfl rfl rfl (fun w0 hw0 => ?_)
  refine CW.seq (CW.region (ef := [0, 1, 2]) (bk := []) (RL.box rfl rfl rfl rfl rfl rfl ?_))
  intro b1
  refine RL.box rfl rfl rfl rfl rfl rfl ?_
  intro b2
  refine RL.alloc Try.zeroValue57 rfl rfl rfl rfl rfl ?_
  intro b3
  refine RL.p rfl (RL.nil (NQ.seq (CW.seq (CW.freezeP (A := [cel b2 [.int .i64 n] 3, cel b1 (c.cells (slO oa c.L.length ca)) 33]) (B := [cel b3 [.int .i64 0, .int .i64 0, .int .u8 0, .int .u8 0, .int .u8 0, .int .u8 0, .int .u8 0, .int .u8 0, .int .u8 0, .int .u8 0, .int .u8 0, .int .u8 0, .int .u8 0, .int .u8 0, .int .u8 0, .int .u8 0, .int .u8 0, .int .u8 0, .int .u8 0, .int .u8 0, .int .u8 0, .int .u8 0, .int .u8 0, .int .u8 0, .int .u8 0, .int .u8 0, .int .u8 0, .int .u8 0, .int .u8 0, .int .u8 0, .int .u8 0, .int .u8 0, .int .u8 0, .int .u8 0, .int .i64 0, .int .i64 0, .int .i64 0, .int .i64 0, .int .i64 0, .int .i64 0, .int .i64 0, .int .i64 0, .int .i64 0, .int .i64 0, .int .i64 0, .int .i64 0, .int .i64 0, .int .i64 0] 57]) (by repeat (first | exact Pick.nil | apply Pick.take | apply Pick.leave)) rfl ?_))))
  refine CW.genI (fun J hJ => ?_)
  have m1 : cel b1 (c.cells (slO oa c.L.length ca)) 33 ∈ J := hJ _ (List.Mem.tail _ (List.Mem.head _))
  have mC : cel b2 [.int .i64 n] 3 ∈ J := hJ _ (List.Mem.head _)
  have m2 : sls (oa.map fun b => ⟨b, 0, none⟩) 48 c.L.length (c.L.flatMap Sr.cells) ∈ J := hJ _ (List.Mem.tail _ (List.Mem.tail _ (List.Mem.head _)))
  clear hJ
  have fS : RdI J ⟨b1, 0 + 0, none⟩ (slO oa c.L.length ca) := ⟨fun _ => Rd.celI m1 rfl⟩
  refine CW.region (ef := [6]) (bk := [6]) (RL.fieldAddr fa_33_0 rfl rfl rfl rfl (RL.loadq Try.isAgg23 rfl rfl rfl rfl ?_))
  refine RL.makeFunc rfl rfl rfl rfl rfl (RL.callv (hfst b2) Try.call46 rfl rfl rfl rfl (.inI m2 (.inI mC .nil)) (RL.p rfl (RL.p rfl (RL.storeW Try.sizeOf57 rfl rfl rfl rfl rfl rfl rfl (sr_ones r.1) (by repeat (first | exact Upd.here | apply Upd.there)) hfit rfl ?_))))
  refine RL.p rfl (RL.nil (NQ.seq (CW.ok [4, 5] rfl (CW.ret ?_))))
  exact RQ.post (resWT rfl rfl rfl Try.isAgg57 Try.sizeOf57 (by repeat (first | exact List.Mem.head _ | apply List.Mem.tail)) hfit) (Split.none _) ⟨rfl, rfl, rfl⟩
theorem rcof_any (c : Cf) (oa : Option Nat) (ca m : Nat) (n : Int) (hm : c.L.length = m) (hc : c.Fit) (hl : m ≤ 1000000) :
    Spc Try.prog 16 #[.agg (c.cells (slO oa m ca)).toArray, .int .i64 n] [sls (oa.map fun b => ⟨b, 0, none⟩) 48 m (c.L.flatMap Sr.cells)] [] (Is (FndV (pickS (fun s => (fun s : Sr => s.kd == n) s) c.L))) := by
  subst hm
  have hLl : ∀ s ∈ c.L, s.cells.length = 48 := fun s hs => sr_len (hc.L s hs).rt
  refine Spc.enter Try.func16 rfl rfl rfl (fun w0 hw0 => ?_)
  refine CW.seq (CW.region (ef := [0, 1]) (bk := []) (RL.box rfl rfl rfl rfl rfl rfl ?_))
  intro b1
  refine RL.alloc Try.zeroValue46 rfl rfl rfl rfl rfl ?_
  intro b2
  refine RL.p rfl (RL.nil (NQ.seq (CW.seq (CW.seq (CW.freezeP (A := [cel b1 (c.cells (slO oa c.L.length ca)) 38]) (B := [cel b2 [.int .i64 0, .int .i64 0, .int .u8 0, .int .u8 0, .int .u8 0, .int .u8 0, .int .u8 0, .int .u8 0, .int .u8 0, .int .u8 0, .int .u8 0, .int .u8 0, .int .u8 0, .int .u8 0, .int .u8 0, .int .u8 0, .int .u8 0, .int .u8 0, .int .u8 0, .int .u8 0, .int .u8 0, .int .u8 0, .int .u8 0, .int .u8 0, .int .u8 0, .int .u8 0, .int .u8 0, .int .u8 0, .int .u8 0, .int .u8 0, .int .u8 0, .int .u8 0, .int .u8 0, .int .u8 0, .int .i64 0, .int .i64 0, .int .i64 0, .int .i64 0, .int .i64 0, .int .i64 0, .int .i64 0, .int .i64 0, .int .i64 0, .int .i64 0, .int .i64 0, .int .i64 0, .int .i64 0, .int .i64 0] 46]) (by repeat (first | exact Pick.nil | apply Pick.take | apply Pick.leave)) rfl ?_)))))
  refine CW.genI (fun J hJ => ?_)
  have m1 : cel b1 (c.cells (slO oa c.L.length ca)) 38 ∈ J := hJ _ (List.Mem.head _)
  have m2 : sls (oa.map fun b => ⟨b, 0, none⟩) 48 c.L.length (c.L.flatMap Sr.cells) ∈ J := hJ _ (List.Mem.tail _ (List.Mem.head _))
  clear hJ
  have fS : RdI J ⟨b1, 0 + 0, none⟩ (slO oa c.L.length ca) := ⟨fun _ => Rd.celI m1 rfl⟩
  refine CW.rg (RL.p rfl (RL.nil (NQ.seq (CW.block (CW.loop (γ := Nat) (fun i => i ≤ c.L.length ∧ (∀ j < i, ∀ s, c.L[j]? = some s → ((fun s : Sr => s.kd == n) s) = false)) (fun i => [(1, .int .i64 n), (2, .pointer (some ⟨b1, 0, none⟩)), (4, .pointer (some ⟨b2, 0, none⟩)), (6, .int .i64 (i : Int))]) (fun _ => J) (fun _ => [cel b2 [.int .i64 0, .int .i64 0, .int .u8 0, .int .u8 0, .int .u8 0, .int .u8 0, .int .u8 0, .int .u8 0, .int .u8 0, .int .u8 0, .int .u8 0, .int .u8 0, .int .u8 0, .int .u8 0, .int .u8 0, .int .u8 0, .int .u8 0, .int .u8 0, .int .u8 0, .int .u8 0, .int .u8 0, .int .u8 0, .int .u8 0, .int .u8 0, .int .u8 0, .int .u8 0, .int .u8 0, .int .u8 0, .int .u8 0, .int .u8 0, .int .u8 0, .int .u8 0, .int .u8 0, .int .u8 0, .int .i64 0, .int .i64 0, .int .i64 0, .int .i64 0, .int .i64 0, .int .i64 0, .int .i64 0, .int .i64 0, .int .i64 0, .int .i64 0, .int .i64 0, .int .i64 0, .int .i64 0, .int .i64 0] 46]) (fun i => c.L.length - i) 0 ⟨Nat.zero_le _, fun j h => by omega⟩ (.cons rfl (.cons rfl (.cons rfl (.cons rfl .nil)))) (fun w h => h.rea (fun _ h => h) (by repeat (first | exact Rea.nil | (apply Rea.cons; (solve | (repeat (first | exact Del.here | apply Del.there))))))) ?_)))))
  rintro i ⟨hi, hok⟩
  refine CW.fact (p := oa = none → c.L.length = 0) (fun w hC e => sls_nil (hC.s.i _ m2) (by rw [e]; rfl)) (fun hpa => ?_)
  refine CW.seq (CW.seq (CW.rg (RL.p rfl (RL.fieldAddr fa_38_0 rfl rfl rfl rfl (RL.loadq Try.isAgg35 rfl rfl rfl rfl ?_)))))
  refine RL.lenS Try.runUnderlying35 rfl rfl rfl rfl (RL.p rfl (RL.nil (NQ.seq ?_)))
  refine CW.cond rfl (fun hlt => ?_) (fun hlt => ?_)
  ·
    have hlt : i < c.L.length := by simp at hlt; omega
    cases oa with
    | none => exact absurd (hpa rfl) (by omega)
    | some ba =>
    have hx := List.getElem?_eq_getElem hlt
    generalize c.L[i] = s at hx
    have hsl := hLl s (List.mem_of_getElem? hx)
    have fA : RdsN J ⟨ba, 0 + i * 48, none⟩ 48 s.cells := flat_rdsN (f := Sr.cells) m2 hx hLl
    have fI : RdI J ⟨ba, 0 + i * 48 + 1, none⟩ (.int .i64 s.kd) := flat_rdI (f := Sr.cells) m2 hx hLl rfl
    refine CW.skip (NQ.seq (CW.seq (CW.block (CW.seq (CW.rg (RL.fieldAddr fa_38_0 rfl rfl rfl rfl (RL.loadq Try.isAgg35 rfl rfl rfl rfl ?_)))))))
    refine RL.p rfl (RL.idxAt (j := i) Try.runUnderlying35 Try.sizeOf46 rfl rfl rfl rfl rfl rfl (hlt) (RL.fieldAddr fa_46_1 rfl rfl rfl rfl (RL.loadq Try.isAgg3 rfl rfl rfl rfl ?_)))
    refine RL.p rfl (RL.p rfl (RL.nil (NQ.seq (CW.ok [1, 2, 4, 6, 21] rfl ?_))))
    refine CW.cond rfl (fun hp => ?_) (fun hp => ?_)
    ·
      refine CW.seq (CW.region (ef := [5]) (bk := [5]) (RL.fieldAddr fa_38_0 rfl rfl rfl rfl (RL.loadq Try.isAgg35 rfl rfl rfl rfl ?_)))
      refine RL.p rfl (RL.idxAt (j := i) Try.runUnderlying35 Try.sizeOf46 rfl rfl rfl rfl rfl rfl (hlt) (RL.loadSq Try.isAgg46 Try.sizeOf46 rfl rfl rfl rfl ?_))
      refine RL.storeW Try.sizeOf46 rfl rfl rfl rfl rfl rfl rfl (sr_ones s) (by repeat (first | exact Upd.here | apply Upd.there)) hsl rfl ?_
      refine RL.p rfl (RL.nil (NQ.seq (CW.ok [1, 2, 4, 5, 6] rfl (CW.ret (RQ.block (RQ.seq (RQ.seq (RQ.block (RQ.seq ?_)))))))))
      exact RQ.post (resWT rfl rfl rfl Try.isAgg46 Try.sizeOf46 (by repeat (first | exact List.Mem.head _ | apply List.Mem.tail)) hsl) (Split.none _) ⟨by rw [pickS_yes hx hp hok]; rfl, rfl, rfl⟩
    ·
      refine CW.skip (NQ.block (NQ.seq (CW.rg (RL.p rfl (RL.bx rfl (wrapV_i64 (by omega) (by omega)) ?_)))))
      refine RL.p rfl (RL.nil ?_)
      refine NQ.round (g := i) (i + 1) ⟨hlt, fun j hj s' hs' => ?_⟩ (by show c.L.length - (i + 1) < c.L.length - i; omega) (.cons rfl (.cons rfl (.cons rfl (.cons rfl .nil)))) (fun w h => h.rea (fun _ h => h) (by repeat (first | exact Rea.nil | (apply Rea.cons; (solve | (repeat (first | exact Del.here | apply Del.there)))))))
      rcases Nat.lt_succ_iff_lt_or_eq.1 hj with hj | rfl
      · exact hok j hj s' hs'
      · rw [hx] at hs'; cases hs'; exact hp
  ·
    have hin : i = c.L.length := by simp at hlt; omega
    subst hin
    refine CW.exit (XQ.seq (XQ.seq (XQ.hit (NQ.seq (CW.ok [4] rfl (CW.seq (CW.region (ef := [1]) (bk := [1]) (RL.buildS _ Try.zeroValue46 pl_46 rfl rfl rfl rfl rfl (RL.storeWq Try.sizeOf46 rfl rfl rfl rfl rfl rfl rfl ?_)))))))))
    refine RL.p rfl (RL.nil (NQ.seq (CW.ret ?_)))
    exact RQ.post (resWT rfl rfl rfl Try.isAgg46 Try.sizeOf46 (by repeat (first | exact List.Mem.head _ | apply List.Mem.tail)) rfl) (Split.none _) ⟨by rw [pickS_no hok]; rfl, rfl, rfl⟩
end Go.Proofs.Ytbdnebedmdoehaa
