import Derived.Test.YthgjgeapfndeeaaGreatDoorFA
import Derived.Test.YthgjgeapfndeeaaGreatDoorPkRf
import Derived.Test.YthgjgeapfndeeaaGreatDoorEX5
set_option linter.unusedVariables false
set_option linter.unusedSimpArgs false
namespace Go.PK
/-- All of a memory, as one told thing. -/
def memI {θ : Vl} {h : Heap} {w0 : World} (hm : Mem θ h w0) : It where
  bs := List.range w0.heap.size
  A w := Mem θ h w ∧ w0.heap.size ≤ w.heap.size
  fr w w' hb k := by
    have hlt : ∀ id b, h.get id = some b → ∀ x ∈ (itA θ id b).bs, x < w0.heap.size := fun id b hg => hm.lt hg
    refine ⟨⟨fun id b hg => (itA θ id b).fr w w' (fun x hx => hb x (List.mem_range.2 (hlt id b hg x hx))) (k.1.ok id b hg), k.1.wf, k.1.dj⟩, ?_⟩
    apply Decidable.byContradiction
    intro hn
    have h1 := hb w'.heap.size (List.mem_range.2 (by omega))
    rw [Array.getElem?_eq_none (Nat.le_refl _), Array.getElem?_eq_getElem (by have := k.2; omega)] at h1
    cases h1
  lt w k b hb := by have := List.mem_range.1 hb; have := k.2; omega
theorem memI_A {θ : Vl} {h : Heap} {w0 : World} (hm : Mem θ h w0) : (memI hm).A w0 := ⟨hm, Nat.le_refl _⟩
/-- A call carried out in a memory that it must leave as it is: a contract. -/
theorem spc_in {P : Program} {call : CallT} (hc : CallOk P call) {h h' : Heap} {nx n' : Nat} {f : FuncId} {args : List AV} {v : AV} (he : call h h nx f args = some (v, h', n')) {θ : Vl} {w0 : World} (hm : Mem θ h w0) (hwa : ∀ x ∈ args, x.Wf (AH θ h)) :
    Spc P f (args.map (AV.dec θ)).toArray [memI hm] [] (fun u I' H' => (∃ θ', u = v.dec θ') ∧ I' = [] ∧ H' = []) := fun w hw => by
  have F := hc _ _ _ _ _ _ _ _ he
  have hm' : Mem θ h w := (hw.i _ (List.mem_singleton.2 rfl)).1
  refine (F.call (fun _ _ h => h) _ w hm' hwa).mono ?_
  rintro e w' ⟨u', rfl, ⟨θ', A⟩, -⟩
  have hd := A.d
  have hn : ∀ x, ¬ Own θ h h x := fun x ⟨id, b, h1, h2, _⟩ => by rw [h1] at h2; cases h2
  exact ⟨u', [], [], rfl, ⟨⟨θ', hd⟩, rfl, rfl⟩, A.k.toGrow hn, ⟨(fun _ h => by cases h), (fun _ h => by cases h), List.nodup_nil, (fun _ h => by cases h)⟩, (fun _ h => by cases h), (fun _ h => by cases h)⟩
def chunks {α : Type} (sz : Nat) : Nat → List α → List (List α)
  | 0, _ => []
  | n + 1, l => l.take sz :: chunks sz n (l.drop sz)
theorem chunks_ok {α : Type} {sz : Nat} : ∀ {n : Nat} {l : List α}, l.length = n * sz → (chunks sz n l).flatMap id = l ∧ (chunks sz n l).length = n ∧ ∀ y ∈ chunks sz n l, y.length = sz
  | 0, l, h => by
    have : l = [] := List.eq_nil_of_length_eq_zero (by omega)
    subst this
    exact ⟨rfl, rfl, fun _ h => by cases h⟩
  | n + 1, l, h => by
    rw [Nat.add_mul, Nat.one_mul] at h
    obtain ⟨h1, h2, h3⟩ := chunks_ok (sz := sz) (n := n) (l := l.drop sz) (by rw [List.length_drop]; omega)
    refine ⟨by rw [chunks, List.flatMap_cons, h1]; exact List.take_append_drop _ _, by rw [chunks, List.length_cons, h2], fun y hy => ?_⟩
    rcases List.mem_cons.1 hy with rfl | hy
    · rw [List.length_take]; omega
    · exact h3 y hy
end Go.PK
namespace Go.Proofs.YthgjgeapfndeeaaGreatDoor
open Go.PK
/-! ### A plan all parts of which are all right -/
def PtZ : Value → List It → List It → Prop := fun v I' H' => ∃ p, v = .tuple #[.pointer p, .int .i64 0] ∧ I' = [] ∧ H' = []
abbrev ZO := Zn × Option Nat × Nat
def znO (z : ZO) : List Value := znC z.1.keep (slO z.2.1 z.1.L.length z.2.2) z.1.fl z.1.rf
def znS (z : ZO) : It := sls (z.2.1.map fun b => ⟨b, 0, none⟩) 2 z.1.L.length (z.1.L.flatMap Pt.cells)
theorem znO_len (z : ZO) : (znO z).length = 4 := rfl
structure PG where
  Cc : List Value
  R : List (List Value)
  ZL : List ZO
  oa : Option Nat
  oz : Option Nat
  ca : Nat
  cz : Nat
  de : Int
  ra : Int
  mo : Int
  sz : Int
def PG.C (G : PG) : List Value := G.Cc ++ [slO G.oz G.ZL.length G.cz, .int .i64 G.de, .int .i64 G.ra, .int .i64 G.mo, .int .i64 G.sz]
structure PG.Ok (G : PG) (im : It) : Prop where
  cm : G.Cc.length = 45
  hd : G.Cc[0]? = some (slO G.oa G.R.length G.ca)
  nl : G.R.length ≤ 1000000
  nz : G.ZL.length ≤ 8
  np : ∀ z ∈ G.ZL, z.1.L.length ≤ 1000000
  ze : ∀ z ∈ G.ZL, z.1.err = 0
  rl : ∀ s ∈ G.R, s.length = 48
  ro : ∀ s ∈ G.R, ones s = true
  sc : Spc Tryz.prog 83 #[.agg G.Cc.toArray] [im] [] (Is (.int .i64 0))
  sy : Spc Tryz.prog 74 #[.int .i64 G.de, .int .i64 G.ra, .int .i64 G.mo] [] [] PtZ
  tr : Spc Tryz.prog 40 #[.int .i64 G.sz] [] [] PtZ
  ba : ∀ s ∈ G.R, Spc Tryz.prog 82 #[.agg s.toArray] [] [] (Is (.bool true))
abbrev PG.I (G : PG) (im : It) : List It := im :: sls (G.oa.map fun b => ⟨b, 0, none⟩) 48 G.R.length (G.R.flatMap id) :: sls (G.oz.map fun b => ⟨b, 0, none⟩) 4 G.ZL.length (G.ZL.flatMap znO) :: G.ZL.map znS
theorem PG.cf {G : PG} (h : G.Cc.length = 45) (j : Nat) (u : Value) (hu : G.Cc[j]? = some u) : G.C[0 + 0 + j]? = some u := by
  rw [show 0 + 0 + j = j by omega, PG.C, List.getElem?_append_left (List.getElem?_eq_some_iff.1 hu).1]; exact hu
theorem PG.tl {G : PG} (h : G.Cc.length = 45) (j : Nat) : G.C[0 + (45 + j)]? = [slO G.oz G.ZL.length G.cz, .int .i64 G.de, .int .i64 G.ra, .int .i64 G.mo, .int .i64 G.sz][j]? := by
  rw [PG.C, List.getElem?_append_right (by rw [h]; omega), h, show 0 + (45 + j) - 45 = j by omega]
theorem PG.len {G : PG} (h : G.Cc.length = 45) : G.C.length = 50 := by rw [PG.C, List.length_append, h]; rfl
def zL (n : Nat) : List (List Value) := List.replicate n [.int .i64 0]
theorem zL_at {n k : Nat} (h : k < n) : (zL n)[k]? = some [.int .i64 0] := by rw [zL, List.getElem?_replicate, if_pos h]
theorem zL_of {n k : Nat} {a : List Value} (h : (zL n)[k]? = some a) : a = [.int .i64 0] := by
  rw [zL, List.getElem?_replicate] at h
  split at h
  · exact (Option.some.inj h).symm
  · cases h
theorem parts_it (G : PG) (im : It) (hG : G.Ok im) : Iter Tryz.prog 81 [.agg G.C.toArray] [] (G.I im) (zL (3 + G.ZL.length)) := by
  intro l X Z p hY
  show Spc _ _ #[.agg G.C.toArray, .func (.yield l) #[] #[]] _ _ _
  have hel : (zL (3 + G.ZL.length)).length = 3 + G.ZL.length := by simp [zL]
  have hnz := hG.nz
  have hY : ∀ k, k < 3 + G.ZL.length → _ := fun k hk => hY k _ (zL_at hk)
  refine Spc.enter Tryz.func81 rfl rfl rfl (fun w0 hw0 => ?_)
  refine CW.seq (CW.region (ef := [0]) (bk := []) (RL.box rfl rfl rfl rfl rfl rfl ?_))
  intro b1
  refine RL.nil (NQ.seq (CW.seq (CW.seq (CW.freezeP (A := [cel b1 G.C 38]) (B := X 0) (.take (Pick.none _)) rfl ?_))))
  refine CW.genI (fun J hJ => ?_)
  have m0 : im ∈ J := hJ _ (by simp)
  have m1 : cel b1 G.C 38 ∈ J := hJ _ (by simp)
  have m2 : sls (G.oa.map fun b => ⟨b, 0, none⟩) 48 G.R.length (G.R.flatMap id) ∈ J := hJ _ (by simp)
  have m3 : sls (G.oz.map fun b => ⟨b, 0, none⟩) 4 G.ZL.length (G.ZL.flatMap znO) ∈ J := hJ _ (by simp)
  have m4 : ∀ z ∈ G.ZL, znS z ∈ J := fun z hz => hJ _ (by repeat (first | exact List.mem_map_of_mem hz | apply List.mem_cons_of_mem))
  clear hJ
  have fC : RdsN J ⟨b1, 0 + 0, none⟩ 45 G.Cc := RdsN.told m1 (PG.cf hG.cm) hG.cm
  have fS : RdI J ⟨b1, 0 + 0 + 0, none⟩ (slO G.oa G.R.length G.ca) := ⟨fun _ => Rd.getI m1 (PG.cf hG.cm 0 _ hG.hd)⟩
  have fZ : RdI J ⟨b1, 0 + 45, none⟩ (slO G.oz G.ZL.length G.cz) := ⟨fun _ => Rd.getI m1 (PG.tl hG.cm 0)⟩
  have f6 : RdI J ⟨b1, 0 + 46, none⟩ (.int .i64 G.de) := ⟨fun _ => Rd.getI m1 (PG.tl hG.cm 1)⟩
  have f7 : RdI J ⟨b1, 0 + 47, none⟩ (.int .i64 G.ra) := ⟨fun _ => Rd.getI m1 (PG.tl hG.cm 2)⟩
  have f8 : RdI J ⟨b1, 0 + 48, none⟩ (.int .i64 G.mo) := ⟨fun _ => Rd.getI m1 (PG.tl hG.cm 3)⟩
  have f9 : RdI J ⟨b1, 0 + 49, none⟩ (.int .i64 G.sz) := ⟨fun _ => Rd.getI m1 (PG.tl hG.cm 4)⟩
  refine CW.region (ef := [4]) (bk := [4]) (RL.p rfl (RL.fieldAddr fa_38_0 rfl rfl rfl rfl (RL.loadSq Tryz.isAgg35 Tryz.sizeOf35 rfl rfl rfl rfl ?_)))
  refine RL.callv (hG.sc) Tryz.call83 rfl rfl rfl rfl (.inI m0 .nil) (RL.callY (hY 0 (by omega)) rfl rfl rfl rfl rfl rfl rfl (Pick.all _) ?_)
  rintro _ _ ⟨rfl, rfl⟩
  rw [List.append_nil]
  refine RL.p rfl (RL.nil (NQ.seq (CW.ok [1, 2, 15] rfl ?_)))
  refine CW.cond rfl (fun h0 => ?_) (fun h0 => ?_)
  · have hpf : p 0 = false := by simpa using h0
    refine CW.ret (RQ.seq ?_)
    rw [if_neg (by rw [hpf]; decide)]
    exact RQ.post (res0 rfl) (Split.keeps _) ⟨rfl, rfl, .inr ⟨0, by omega, hpf, rfl⟩⟩
  · have hp0 : p 0 = true := by simpa using h0
    rw [if_pos hp0]
    refine CW.skip (NQ.seq (CW.seq (CW.region (ef := [6]) (bk := []) (RL.fieldAddr fa_38_2 rfl rfl rfl rfl (RL.loadq Tryz.isAgg3 rfl rfl rfl rfl ?_)))))
    refine RL.fieldAddr fa_38_3 rfl rfl rfl rfl (RL.loadq Tryz.isAgg3 rfl rfl rfl rfl ?_)
    refine RL.fieldAddr fa_38_4 rfl rfl rfl rfl (RL.loadq Tryz.isAgg3 rfl rfl rfl rfl ?_)
    refine RL.call hG.sy Tryz.call74 rfl rfl rfl rfl rfl (Pick.none _) .nil (.inl rfl) ?_
    rintro _ _ _ ⟨p1, rfl, rfl, rfl⟩
    rw [List.nil_append, List.nil_append]
    refine RL.p rfl (RL.p rfl (RL.p rfl (RL.p rfl (RL.p rfl (RL.nil (NQ.seq (CW.ok [1, 2, 5] rfl (CW.seq (CW.region (ef := [2]) (bk := []) (RL.fieldAddr fa_38_5 rfl rfl rfl rfl (RL.loadq Tryz.isAgg3 rfl rfl rfl rfl ?_)))))))))))
    refine RL.call hG.tr Tryz.call40 rfl rfl rfl rfl rfl (Pick.none _) .nil (.inl rfl) ?_
    rintro _ _ _ ⟨p2, rfl, rfl, rfl⟩
    rw [List.nil_append, List.nil_append]
    refine RL.p rfl (RL.p rfl (RL.p rfl (RL.p rfl (RL.p rfl (RL.nil (NQ.seq (CW.ok [1, 2, 5, 7] rfl (CW.seq (CW.seq (CW.region (ef := [2, 7]) (bk := [2, 7]) (RL.p rfl (RL.p rfl (RL.callY (hY 1 (by omega)) rfl rfl rfl rfl rfl rfl rfl (Pick.all _) ?_)))))))))))))
    rintro _ _ ⟨rfl, rfl⟩
    rw [List.append_nil]
    refine RL.p rfl (RL.p rfl ?_)
    refine RL.part (d := 36) rfl (fun h1 => ?_) (fun h1 => ?_)
    ·
      refine RL.p rfl (RL.p rfl (RL.p rfl (RL.p rfl (RL.p rfl (RL.nil (NQ.seq (CW.ok [1, 2, 41] rfl (CW.condT rfl rfl (CW.ret (RQ.seq ?_))))))))))
      have hpf : p 1 = false := by simpa using h1
      rw [if_neg (by rw [hpf]; decide)]
      exact RQ.post (res0 rfl) (Split.keeps _) ⟨rfl, rfl, .inr ⟨1, by omega, hpf, rfl⟩⟩
    · have hp1 : p 1 = true := by simpa using h1
      rw [if_pos hp1]
      refine RL.p rfl (RL.p rfl (RL.callY (hY 2 (by omega)) rfl rfl rfl rfl rfl rfl rfl (Pick.all _) ?_))
      rintro _ _ ⟨rfl, rfl⟩
      rw [List.append_nil]
      refine RL.p rfl (RL.p rfl (RL.nil (NQ.seq (CW.ok [1, 2, 41] rfl ?_))))
      refine CW.cond rfl (fun h2 => ?_) (fun h2 => ?_)
      · have hpf : p 2 = false := by simpa using h2
        refine CW.ret (RQ.seq ?_)
        rw [if_neg (by rw [hpf]; decide)]
        exact RQ.post (res0 rfl) (Split.keeps _) ⟨rfl, rfl, .inr ⟨2, by omega, hpf, rfl⟩⟩
      · have hp2 : p 2 = true := by simpa using h2
        rw [if_pos hp2]
        refine CW.skip (NQ.seq (CW.seq (CW.rg (RL.fieldAddr fa_38_1 rfl rfl rfl rfl (RL.loadq Tryz.isAgg36 rfl rfl rfl rfl ?_)))))
        refine RL.lenS Tryz.runUnderlying36 rfl rfl rfl rfl (RL.p rfl (RL.nil (NQ.seq (CW.block ?_))))
        refine CW.loop (γ := Nat) (fun i => i ≤ G.ZL.length ∧ ∀ k, k < 3 + i → p k = true) (fun i => [(1, .func (.yield l) #[] #[]), (43, slO G.oz G.ZL.length G.cz), (44, .int .i64 (G.ZL.length : Int)), (45, .int .i64 (i : Int))]) (fun _ => J) (fun i => X (3 + i)) (fun i => G.ZL.length - i) 0 ⟨Nat.zero_le _, fun k hk => by
          have : k = 0 ∨ k = 1 ∨ k = 2 := by omega
          rcases this with rfl | rfl | rfl
          · exact hp0
          · exact hp1
          · exact hp2⟩ (.cons rfl (.cons rfl (.cons rfl (.cons rfl .nil)))) (fun w h => h) ?_
        rintro i ⟨hi, hp⟩
        refine CW.fact (p := G.oz = none → G.ZL.length = 0) (fun w hC e => sls_nil (hC.s.i _ m3) (by rw [e]; rfl)) (fun hpa => ?_)
        refine CW.seq (CW.rg (RL.p rfl (RL.nil (NQ.seq (CW.seq ?_)))))
        refine CW.cond rfl (fun hlt => ?_) (fun hlt => ?_)
        ·
          have hlt' : i < G.ZL.length := by simp at hlt; omega
          have hoz : ∃ bz, G.oz = some bz := by
            cases h : G.oz with
            | none => exact absurd (hpa h) (by omega)
            | some bz => exact ⟨bz, rfl⟩
          obtain ⟨bz, hoz⟩ := hoz
          rw [hoz] at m3 fZ ⊢
          obtain ⟨z, hz⟩ : ∃ z, G.ZL[i]? = some z := ⟨_, List.getElem?_eq_getElem hlt'⟩
          have hzm := List.mem_of_getElem? hz
          have fA : RdsN J ⟨bz, 0 + i * 4, none⟩ 4 (znO z) := flat_rdsN (f := znO) m3 hz (fun z _ => znO_len z)
          have hy := hY (3 + i) (by omega)
          have hfc := fcheck_any z.1 z.2.1 z.2.2 _ rfl (hG.np z hzm)
          rw [hG.ze z hzm] at hfc
          refine CW.skip (NQ.seq (CW.seq (CW.block (CW.seq (CW.region (ef := [2, 3]) (bk := [3]) (RL.idxAt (j := i) Tryz.runUnderlying36 Tryz.sizeOf122 rfl rfl rfl rfl rfl rfl (hlt') (RL.loadSq Tryz.isAgg122 Tryz.sizeOf122 rfl rfl rfl rfl ?_)))))))
          refine RL.alloc Tryz.zeroValue122 rfl rfl rfl rfl rfl ?_
          intro b2
          refine RL.store (vs := [_, _, _, _]) Tryz.sizeOf122 rfl rfl rfl rfl rfl rfl rfl rfl rfl (by repeat (first | exact Upd.here | apply Upd.there)) ?_
          refine RL.nil (NQ.seq (CW.seq (CW.region (ef := [3]) (bk := [3]) (RL.p rfl (RL.loadW Tryz.isAgg122 Tryz.sizeOf122 rfl rfl rfl rfl (by repeat (first | exact List.Mem.head _ | apply List.Mem.tail)) rfl ?_)))))
          refine RL.callv (hfc) Tryz.call153 rfl rfl rfl rfl (.inI (m4 z hzm) .nil) (RL.callY hy rfl rfl rfl rfl rfl rfl rfl (.leave (Pick.all _)) ?_)
          rintro _ _ ⟨rfl, rfl⟩
          refine RL.p rfl (RL.nil (NQ.seq (CW.ok [1, 43, 44, 45, 53] rfl ?_)))
          refine CW.cond rfl (fun hq => ?_) (fun hq => ?_)
          · have hpf : p (3 + i) = false := by simpa using hq
            refine CW.ret (RQ.block (RQ.seq (RQ.seq (RQ.block ?_))))
            rw [if_neg (by rw [hpf]; decide)]
            exact RQ.post (res0 rfl) (Split.front _ _) ⟨rfl, rfl, .inr ⟨3 + i, by omega, hpf, rfl⟩⟩
          · have hpt : p (3 + i) = true := by simpa using hq
            refine CW.skip (NQ.block (NQ.seq (CW.rg (RL.bx rfl (wrapV_i64 (by omega) (by omega)) ?_))))
            refine RL.p rfl (RL.nil ?_)
            rw [if_pos hpt]
            exact NQ.round (g := i) (i + 1) ⟨hlt', fun k hk => by rcases Nat.lt_succ_iff_lt_or_eq.1 (show k < (3 + i) + 1 by omega) with h | rfl; exact hp k h; exact hpt⟩ (by omega) (.cons rfl (.cons rfl (.cons rfl (.cons rfl .nil)))) (fun w h => h.les (fun _ h => h) (Les.front _ _))
        ·
          refine CW.exit (XQ.seq (XQ.seq (XQ.hit ?_)))
          have hin : i = G.ZL.length := by simp at hlt; omega
          subst hin
          exact NQ.post (res0 rfl) (Split.keeps _) ⟨rfl, rfl, .inl ⟨by rw [hel], fun k hk => hp k (by omega)⟩⟩
theorem gcheck_yes (G : PG) (im : It) (hG : G.Ok im) : Spc Tryz.prog 37 #[.agg G.C.toArray] (G.I im) [] (Is (.int .i64 0)) := by
  have hit := parts_it G im hG
  have hnz := hG.nz
  have hnl := hG.nl
  have hpl := PG.len hG.cm
  refine Spc.enter Tryz.func37 rfl rfl rfl (fun w0 hw0 => ?_)
  refine CW.seq (CW.region (ef := [0, 1]) (bk := []) (RL.box rfl rfl rfl rfl rfl rfl ?_))
  intro b1
  refine RL.alloc Tryz.zeroValue47 rfl rfl rfl rfl rfl ?_
  intro b2
  refine RL.nil (NQ.seq (CW.seq (CW.seq (CW.freezeP (A := [cel b1 G.C 38]) (B := [cel b2 [.int .i64 0] 47]) (by repeat (first | exact Pick.nil | apply Pick.take | apply Pick.leave)) rfl ?_))))
  refine CW.genI (fun J hJ => ?_)
  have hplI : ∀ x ∈ G.I im, x ∈ J := fun x hx => hJ x (List.Mem.tail _ hx)
  have m0 : im ∈ J := hJ _ (by simp)
  have m1 : cel b1 G.C 38 ∈ J := hJ _ (by simp)
  have m2 : sls (G.oa.map fun b => ⟨b, 0, none⟩) 48 G.R.length (G.R.flatMap id) ∈ J := hJ _ (by simp)
  have m3 : sls (G.oz.map fun b => ⟨b, 0, none⟩) 4 G.ZL.length (G.ZL.flatMap znO) ∈ J := hJ _ (by simp)
  have m4 : ∀ z ∈ G.ZL, znS z ∈ J := fun z hz => hJ _ (by repeat (first | exact List.mem_map_of_mem hz | apply List.mem_cons_of_mem))
  clear hJ
  have fC : RdsN J ⟨b1, 0 + 0, none⟩ 45 G.Cc := RdsN.told m1 (PG.cf hG.cm) hG.cm
  have fS : RdI J ⟨b1, 0 + 0 + 0, none⟩ (slO G.oa G.R.length G.ca) := ⟨fun _ => Rd.getI m1 (PG.cf hG.cm 0 _ hG.hd)⟩
  have fZ : RdI J ⟨b1, 0 + 45, none⟩ (slO G.oz G.ZL.length G.cz) := ⟨fun _ => Rd.getI m1 (PG.tl hG.cm 0)⟩
  have f6 : RdI J ⟨b1, 0 + 46, none⟩ (.int .i64 G.de) := ⟨fun _ => Rd.getI m1 (PG.tl hG.cm 1)⟩
  have f7 : RdI J ⟨b1, 0 + 47, none⟩ (.int .i64 G.ra) := ⟨fun _ => Rd.getI m1 (PG.tl hG.cm 2)⟩
  have f8 : RdI J ⟨b1, 0 + 48, none⟩ (.int .i64 G.mo) := ⟨fun _ => Rd.getI m1 (PG.tl hG.cm 3)⟩
  have f9 : RdI J ⟨b1, 0 + 49, none⟩ (.int .i64 G.sz) := ⟨fun _ => Rd.getI m1 (PG.tl hG.cm 4)⟩
  have fA : RdsN J ⟨b1, 0, none⟩ 50 G.C := RdsN.told m1 (fun j u hu => by rw [Nat.zero_add]; exact hu) hpl
  refine CW.rg (RL.fieldAddr fa_38_1 rfl rfl rfl rfl (RL.loadq Tryz.isAgg36 rfl rfl rfl rfl ?_))
  refine RL.lenS Tryz.runUnderlying36 rfl rfl rfl rfl (RL.p rfl (RL.nil (NQ.seq ?_)))
  refine CW.cond rfl (fun h8 => ?_) (fun h8 => ?_)
  · exfalso
    revert h8
    simp <;> omega
  ·
    refine CW.skip (NQ.seq (CW.seq (CW.seq (CW.rg (RL.loadSq Tryz.isAgg38 Tryz.sizeOf38 rfl rfl rfl rfl ?_)))))
    refine RL.makeFunc rfl rfl rfl rfl rfl (RL.nil (NQ.seq (CW.ok [1, 2, 11] rfl (CW.block ?_))))
    refine CW.rangeFunc (X := fun _ => [cel b2 [.int .i64 0] 47]) (Z := fun _ => [cel b2 [.int .i64 310] 47]) (p := fun _ => true) hit rfl Tryz.call81 (fun a ha => ?_) (by decide) (by repeat (first | exact Pick.nil | apply Pick.take | apply Pick.leave)) (Lend.many hplI) (fun l r k a w1 ha => ?_) (fun hall D => ?_) (fun k hk1 hk2 D => ?_)
    · obtain ⟨k, hk⟩ := List.getElem?_of_mem ha
      rw [zL_of hk]
      rfl
    · obtain rfl := zL_of ha
      refine CW.rg (RL.p rfl (RL.nil (NQ.rdBegin ?_)))
      refine CW.block (CW.seq (CW.rg (RL.p rfl (RL.p rfl (RL.nil (NQ.seq ?_))))))
      refine CW.cond rfl (fun hq => ?_) (fun hq => ?_)
      · exfalso
        revert hq
        simp
      ·
        refine CW.skip (NQ.block ?_)
        exact NQ.rdEnd (by repeat (first | exact Rea.nil | (apply Rea.cons; (solve | (repeat (first | exact Del.here | apply Del.there)))))) ⟨rfl, rfl⟩
    · have hD := hall
      clear hD hall
      refine NQ.block (NQ.seq (CW.seq (CW.seq (CW.rg (RL.fieldAddr fa_38_0 rfl rfl rfl rfl (RL.fieldAddr fa_35_0 rfl rfl rfl rfl (RL.loadq Tryz.isAgg25 rfl rfl rfl rfl ?_)))))))
      refine RL.lenS Tryz.runUnderlying25 rfl rfl rfl rfl (RL.p rfl (RL.nil (NQ.seq (CW.block (CW.loop (γ := Nat) (fun i => i ≤ G.R.length) (fun i => [(2, .pointer (some ⟨b2, 0, none⟩)), (17, slO G.oa G.R.length G.ca), (18, .int .i64 (G.R.length : Int)), (19, .int .i64 (i : Int))]) (fun _ => J) (fun _ => [blk D (.deferred (some [])), cel b2 [.int .i64 0] 47]) (fun i => G.R.length - i) 0 (Nat.zero_le _) (.cons rfl (.cons rfl (.cons rfl (.cons rfl .nil)))) (fun w h => h.rea (fun _ h => h) (by repeat (first | exact Rea.nil | (apply Rea.cons; (solve | (repeat (first | exact Del.here | apply Del.there))))))) ?_)))))
      rintro i hi
      refine CW.fact (p := G.oa = none → G.R.length = 0) (fun w hC e => sls_nil (hC.s.i _ m2) (by rw [e]; rfl)) (fun hpa => ?_)
      refine CW.seq (CW.rg (RL.p rfl (RL.nil (NQ.seq (CW.seq ?_)))))
      refine CW.cond rfl (fun hlt => ?_) (fun hlt => ?_)
      ·
        have hlt' : i < G.R.length := by simp at hlt; omega
        have hoz : ∃ ba, G.oa = some ba := by
          cases h : G.oa with
          | none => exact absurd (hpa h) (by omega)
          | some ba => exact ⟨ba, rfl⟩
        obtain ⟨ba, hoz⟩ := hoz
        rw [hoz] at m2 fS ⊢
        have hx := List.getElem?_eq_getElem hlt'
        generalize G.R[i] = s at hx
        have hsm := List.mem_of_getElem? hx
        have hsl := hG.rl s hsm
        have fB : RdsN J ⟨ba, 0 + i * 48, none⟩ 48 s := flat_rdsN (f := id) m2 hx (fun s hs => hG.rl s hs)
        refine CW.skip (NQ.seq (CW.seq (CW.block (CW.seq (CW.region (ef := [2, 3]) (bk := [3]) (RL.idxAt (j := i) Tryz.runUnderlying25 Tryz.sizeOf249 rfl rfl rfl rfl rfl rfl (hlt') (RL.loadSq Tryz.isAgg249 Tryz.sizeOf249 rfl rfl rfl rfl ?_)))))))
        refine RL.alloc Tryz.zeroValue249 rfl rfl rfl rfl rfl ?_
        intro b3
        refine RL.storeW Tryz.sizeOf249 rfl rfl rfl rfl rfl rfl rfl (hG.ro s hsm) (by repeat (first | exact Upd.here | apply Upd.there)) hsl rfl ?_
        refine RL.nil (NQ.seq (CW.seq (CW.rg (RL.loadW Tryz.isAgg249 Tryz.sizeOf249 rfl rfl rfl rfl (by repeat (first | exact List.Mem.head _ | apply List.Mem.tail)) hsl ?_))))
        refine RL.callvq ((hG.ba s hsm)) Tryz.call82 rfl rfl rfl rfl ?_
        refine RL.p rfl (RL.nil (NQ.seq (CW.ok [2, 17, 18, 19, 25] rfl ?_)))
        refine CW.cond rfl (fun hq => ?_) (fun hq => ?_)
        · exfalso
          revert hq
          simp
        ·
          refine CW.skip (NQ.block (NQ.seq (CW.rg (RL.bx rfl (wrapV_i64 (by omega) (by omega)) ?_))))
          refine RL.p rfl (RL.nil ?_)
          exact NQ.round (g := i) (i + 1) hlt' (by omega) (.cons rfl (.cons rfl (.cons rfl (.cons rfl .nil)))) (fun w h => h.rea (fun _ h => h) (by repeat (first | exact Rea.nil | (apply Rea.cons; (solve | (repeat (first | exact Del.here | apply Del.there)))))))
      ·
        refine CW.exit (XQ.seq (XQ.seq (XQ.hit (NQ.seq (CW.seq (CW.region (ef := [0]) (bk := [0]) (RL.store (vs := [_]) Tryz.sizeOf47 rfl rfl rfl rfl rfl rfl rfl rfl rfl (by repeat (first | exact Upd.here | apply Upd.there)) ?_)))))))
        refine RL.nil (NQ.seq (CW.ret (RQ.marks ?_)))
        exact RQ.post (resV rfl rfl Tryz.isAgg47 (by repeat (first | exact List.Mem.head _ | apply List.Mem.tail))) (Split.none _) ⟨rfl, rfl, rfl⟩
    · cases hk2
end Go.Proofs.YthgjgeapfndeeaaGreatDoor

/-
  A plan that may be: the hook of gram.Check.
-/
namespace Go.PK
theorem ones_of : ∀ {l : List Value}, (∀ u ∈ l, u.oneCell' = true) → ones l = true
  | [], _ => rfl
  | x :: r, h => by rw [ones, h x (List.Mem.head _), ones_of (fun u hu => h u (List.Mem.tail _ hu))]; rfl
theorem idsIn_dec {x : AV} (hx : x.idsIn .e = true) (θ θ' : Vl) : x.dec θ = x.dec θ' := by
  refine AV.dec_ext (A := AH θ' .e) (fun k m h => ?_) (AV.idsIn_wf hx)
  exact absurd h.1 (by show ¬ (none : Option Blk).isSome = true; decide)
theorem Spc.weak {P : Program} {f : FuncId} {args : Array Value} {I H : List It} {R R' : Value → List It → List It → Prop} (h : Spc P f args I H R) (hR : ∀ v I' H', R v I' H' → R' v I' H') : Spc P f args I H R' :=
  fun w hw => (h w hw).mono (fun _ _ ⟨v, I', H', he, hr, r⟩ => ⟨v, I', H', he, hR _ _ _ hr, r⟩)
/-- A call of things without blocks, carried out with no memory at all: what it yields. -/
theorem spc_out {P : Program} {call : CallT} (hc : CallOk P call) {f : FuncId} {args : List AV} {v : AV} {h' : Heap} {n' : Nat} (he : call .e .e 0 f args = some (v, h', n')) (hwf : ∀ x ∈ args, x.idsIn .e = true) : Spc P f (args.map (AV.dec fun _ => (0, 0))).toArray [] [] (fun u I' H' => (∃ θ', u = v.dec θ') ∧ I' = [] ∧ H' = []) := fun w hw => by
  have F := hc _ _ _ _ _ _ _ _ he
  have hge : ∀ k, (Tr.e : Heap).get k = none := fun k => rfl
  have hm : Mem (fun _ => (0, 0)) (.e : Heap) w := ⟨(fun k c h => by rw [hge] at h; cases h), (fun k c h => by rw [hge] at h; cases h), (fun k c k' c' h => by rw [hge] at h; cases h)⟩
  refine (F.call (fun _ _ h => h) _ w hm (fun x hx => AV.idsIn_wf (hwf x hx))).mono ?_
  rintro e w' ⟨u', rfl, ⟨θ', A⟩, -⟩
  exact ⟨u', [], [], rfl, ⟨⟨θ', A.d⟩, rfl, rfl⟩, A.k.none, ⟨(fun _ h => by cases h), (fun _ h => by cases h), List.nodup_nil, (fun _ h => by cases h)⟩, (fun _ h => by cases h), (fun _ h => by cases h)⟩
theorem idsL {h : Heap} : ∀ {l : List AV}, AV.idsInL h l = true → ∀ x ∈ l, x.idsIn h = true
  | [], _, x, hx => by cases hx
  | y :: r, e, x, hx => by
    simp only [AV.idsInL, Bool.and_eq_true] at e
    rcases List.mem_cons.1 hx with rfl | hx
    · exact e.1
    · exact idsL e.2 x hx
end Go.PK
namespace Go.Proofs.YthgjgeapfndeeaaGreatDoor
open Go.PK
noncomputable def ptz (v : AV) : Bool := match v with
  | .tup [.ptr _ _, .val (.int .i64 n)] => decide (n = 0)
  | _ => false
theorem ptz_ok {v : AV} (h : ptz v = true) (θ : Vl) : ∃ p, v.dec θ = .tuple #[.pointer p, .int .i64 0] := by
  unfold ptz at h
  split at h
  · next id off n =>
    have h : n = 0 := of_decide_eq_true h
    subst h
    exact ⟨_, by simp only [AV.dec, AV.decL]; rfl⟩
  · cases h
noncomputable def val0 (v : AV) : Bool := match v with
  | .val (.int .i64 n) => decide (n = 0)
  | _ => false
theorem val0_ok {v : AV} (h : val0 v = true) (θ : Vl) : v.dec θ = .int .i64 0 := by
  unfold val0 at h
  split at h
  · next n =>
    have h : n = 0 := of_decide_eq_true h
    subst h
    rfl
  · cases h
noncomputable def valT (v : AV) : Bool := match v with
  | .val (.bool b) => b
  | _ => false
theorem valT_ok {v : AV} (h : valT v = true) (θ : Vl) : v.dec θ = .bool true := by
  unfold valT at h
  split at h
  · next b =>
    have h : b = true := h
    subst h
    rfl
  · cases h
noncomputable def zonesF (h : Heap) : List (List AV) → Option (List Zn)
  | [] => some []
  | c :: r => ob (zoneF (.agg c) h) fun z => bo (decide (z.err = 0)) (ob (zonesF h r) fun l => some (z :: l)) none
theorem zonesF_ok {h : Heap} {θ : Vl} {w : World} (hm : Mem θ h w) : ∀ {L : List (List AV)} {zs : List Zn}, zonesF h L = some zs → ∃ ZL : List ZO, L.map (List.map (AV.dec θ)) = ZL.map znO ∧ ∀ z ∈ ZL, (znS z).A w ∧ z.1.L.length ≤ 1000000 ∧ z.1.err = 0
  | [], zs, e => ⟨[], rfl, fun _ h => by cases h⟩
  | c :: r, zs, e => by
    obtain ⟨z, h1, h2⟩ := ob_inv (show ob (zoneF (.agg c) h) _ = some zs from e)
    obtain ⟨h3, h4⟩ := bo_inv h2
    obtain ⟨l, h5, h6⟩ := ob_inv h4
    obtain ⟨ZL, h7, h8⟩ := zonesF_ok hm h5
    obtain ⟨ob', cap, e1, e2, e3⟩ := zoneF_ok hm h1
    refine ⟨(z, ob', cap) :: ZL, ?_, fun y hy => ?_⟩
    · rw [List.map_cons, List.map_cons, h7]
      congr 1
      simp only [AV.dec, decL_map] at e1
      injection e1 with e1
      have := congrArg Array.toList e1
      show _ = znC z.keep (slO ob' z.L.length cap) z.fl z.rf
      simpa using this
    · rcases List.mem_cons.1 hy with rfl | hy
      · exact ⟨e2, e3, of_decide_eq_true h3⟩
      · exact h8 y hy
noncomputable def bareF (call : CallT) (f : Nat) : List (List AV) → Bool
  | [] => true
  | c :: r => ((c.all AV.isOne && AV.idsInL .e c) && Option.rec (motive := fun _ => Bool) false (fun q => valT q.1) (call .e .e 0 f [.agg c])) && bareF call f r
noncomputable def gramF (call : CallT) (fC fS fT fB : Nat) (h : Heap) (nx : Nat) (cs : List AV) : Option Unit := match cs, cs.drop 45 with
  | .sl si 0 sn sk sc :: _, [.sl zi 0 zn zk zc, .val (.int .i64 de), .val (.int .i64 ra), .val (.int .i64 mo), .val (.int .i64 sz)] =>
    ob (call h h nx fC [.agg (cs.take 45)]) fun q0 => bo (val0 q0.1) (ob (call .e .e 0 fS [.val (.int .i64 de), .val (.int .i64 ra), .val (.int .i64 mo)]) fun q1 => bo (ptz q1.1) (ob (call .e .e 0 fT [.val (.int .i64 sz)]) fun q2 => bo (ptz q2.1) (ob (rowC 4 (.sl zi 0 zn zk zc) h) fun q3 => bo (Nat.ble zn 8) (ob (zonesF h (chunks 4 zn q3.2)) fun _ => ob (rowC 48 (.sl si 0 sn sk sc) h) fun q4 => bo (Nat.ble sn 1000000 && bareF call fB (chunks 48 sn q4.2)) (some ()) none) none) none) none) none
  | _, _ => none
noncomputable def hkGram (fC fS fT fB : Nat) : Cl FT := ⟨fun call _ h nx a => match a with
  | [.agg cs] => ob (gramF call fC fS fT fB h nx cs) fun _ => some (.val (.int .i64 0), h, nx)
  | _ => none⟩
theorem bareF_ok {call : CallT} {f : Nat} (hc : CallOk Tryz.prog call) {θ : Vl} : ∀ {L : List (List AV)}, bareF call f L = true → ∀ s ∈ L.map (List.map (AV.dec θ)), ones s = true ∧ Spc Tryz.prog f #[.agg s.toArray] [] [] (Is (.bool true))
  | [], _, s, hs => by cases hs
  | c :: r, h, s, hs => by
    have h : (((c.all AV.isOne && AV.idsInL .e c) && Option.rec (motive := fun _ => Bool) false (fun q => valT q.1) (call .e .e 0 f [.agg c])) && bareF call f r) = true := h
    simp only [Bool.and_eq_true] at h
    obtain ⟨⟨⟨h1, h2⟩, h3⟩, h4⟩ := h
    rw [List.map_cons] at hs
    rcases List.mem_cons.1 hs with rfl | hs
    · refine ⟨ones_of (all_one h1), ?_⟩
      cases hq : call .e .e 0 f [.agg c] with
      | none => rw [hq] at h3; cases h3
      | some q =>
        rw [hq] at h3
        have h3 : valT q.1 = true := h3
        have S := spc_out hc hq (fun x hx => by rw [List.mem_singleton.1 hx]; exact h2)
        have e : ([AV.agg c].map (AV.dec fun _ => (0, 0))).toArray = #[.agg (c.map (AV.dec θ)).toArray] := by
          simp only [List.map_cons, List.map_nil, AV.dec, decL_map]
          rw [List.map_congr_left (fun x hx => idsIn_dec (idsL h2 x hx) _ θ)]
        rw [e] at S
        exact S.weak (fun v I' H' ⟨⟨θ', hv⟩, h5, h6⟩ => ⟨hv.trans (valT_ok h3 θ'), h5, h6⟩)
    · exact bareF_ok hc h4 s hs
theorem gramF_ok {call : CallT} (hc : CallOk Tryz.prog call) {h : Heap} {nx : Nat} {cs : List AV} {u : Unit} {θ : Vl} {w : World} (hm : Mem θ h w) (hwa : AV.WfL (AH θ h) cs) (e : gramF call 83 74 40 82 h nx cs = some u) : ∃ G im, cs.map (AV.dec θ) = PG.C G ∧ G.Ok im ∧ ∀ x ∈ G.I im, x.A w := by
  unfold gramF at e
  split at e
  · next si sn sk sc r zi zn zk zc de ra mo sz hd =>
    obtain ⟨⟨v0, g0, n0⟩, a1, a2⟩ := ob_inv e
    obtain ⟨b1, a3⟩ := bo_inv a2
    obtain ⟨⟨v1, g1, n1⟩, a4, a5⟩ := ob_inv a3
    obtain ⟨b2, a6⟩ := bo_inv a5
    obtain ⟨⟨v2, g2, n2⟩, a7, a8⟩ := ob_inv a6
    obtain ⟨b3, a9⟩ := bo_inv a8
    obtain ⟨⟨m3, x3⟩, c1, c2⟩ := ob_inv a9
    obtain ⟨b4, c3⟩ := bo_inv c2
    obtain ⟨zs, c4, c5⟩ := ob_inv c3
    obtain ⟨⟨m4, x4⟩, c6, c7⟩ := ob_inv c5
    obtain ⟨b5, -⟩ := bo_inv c7
    obtain ⟨p, cc, e1, e2, e3⟩ := row_sls hm (rowC_ok c1) (by decide)
    have e1 : Value.slice (some ⟨(θ zi).1, 0, none⟩) zn (bif zk then zc else (θ zi).2 - zc) = .slice p m3 cc := e1
    injection e1 with e4 e5 e6
    subst e4 e5 e6
    obtain ⟨p, cc, k1, k2, k3⟩ := row_sls hm (rowC_ok c6) (by decide)
    have k1 : Value.slice (some ⟨(θ si).1, 0, none⟩) sn (bif sk then sc else (θ si).2 - sc) = .slice p m4 cc := k1
    injection k1 with k4 k5 k6
    subst k4 k5 k6
    have e2 : x3.length = zn * 4 := e2
    have k2 : x4.length = sn * 48 := k2
    obtain ⟨q1, q2, q3⟩ := chunks_ok e2
    obtain ⟨r1, r2, r3⟩ := chunks_ok k2
    obtain ⟨ZL, z1, z2⟩ := zonesF_ok hm c4
    have zl : ZL.length = zn := by have := congrArg List.length z1; rw [List.length_map, List.length_map, q2] at this; exact this.symm
    simp only [Bool.and_eq_true] at b5
    have hRl : ((chunks 48 sn x4).map (List.map (AV.dec θ))).length = sn := by rw [List.length_map, r2]
    have hlen : (AV.sl si 0 sn sk sc :: r).length = 50 := by
      have := congrArg List.length hd
      rw [List.length_drop] at this
      simp only [List.length_cons, List.length_nil] at this ⊢
      omega
    have hfl : ∀ (L : List (List AV)) (l : List AV), L.flatMap id = l → (L.map (List.map (AV.dec θ))).flatMap id = l.map (AV.dec θ) := fun L l hL => by
      rw [← hL]; clear hL
      induction L with
      | nil => rfl
      | cons x r ih => rw [List.map_cons, List.flatMap_cons, List.flatMap_cons, ih, List.map_append]; rfl
    have hz : ZL.flatMap znO = x3.map (AV.dec θ) := by
      rw [← hfl _ _ q1, z1, List.flatMap_map]
      rfl
    refine ⟨⟨((AV.sl si 0 sn sk sc :: r).take 45).map (AV.dec θ), (chunks 48 sn x4).map (List.map (AV.dec θ)), ZL, some (θ si).1, some (θ zi).1, (bif sk then sc else (θ si).2 - sc), (bif zk then zc else (θ zi).2 - zc), de, ra, mo, sz⟩, memI hm, ?_, ?_, ?_⟩
    · rw [PG.C]
      simp only
      rw [zl]
      conv => lhs; rw [← List.take_append_drop 45 (AV.sl si 0 sn sk sc :: r), List.map_append, hd]
      rfl
    · refine ⟨by rw [List.length_map, List.length_take, hlen]; rfl, ?_, ?_, ?_, fun z hz => (z2 z hz).2.1, fun z hz => (z2 z hz).2.2, ?_, ?_, ?_, ?_, ?_, ?_⟩
      · simp only [hRl]
        rfl
      · simp only [hRl]
        exact Nat.le_of_ble_eq_true b5.1
      · simp only [zl]
        exact Nat.le_of_ble_eq_true b4
      · intro s hs
        simp only [List.mem_map] at hs
        obtain ⟨c, hc', rfl⟩ := hs
        rw [List.length_map]
        exact r3 c hc'
      · exact fun s hs => (bareF_ok hc b5.2 s hs).1
      · have S := spc_in hc a1 hm (fun x hx => by
          rw [List.mem_singleton.1 hx]
          exact wfL_iff.2 (fun y hy => wfL_iff.1 hwa y (List.mem_of_mem_take hy)))
        have e : ([AV.agg ((AV.sl si 0 sn sk sc :: r).take 45)].map (AV.dec θ)).toArray = #[.agg (((AV.sl si 0 sn sk sc :: r).take 45).map (AV.dec θ)).toArray] := by
          simp only [List.map_cons, List.map_nil, AV.dec, decL_map]
        rw [e] at S
        exact S.weak (fun v I' H' ⟨⟨θ', hv⟩, h5, h6⟩ => ⟨hv.trans (val0_ok b1 θ'), h5, h6⟩)
      · have S := spc_out hc a4 (fun x hx => by
          simp only [List.mem_cons, List.not_mem_nil, or_false] at hx
          rcases hx with rfl | rfl | rfl <;> rfl)
        exact S.weak (fun v I' H' ⟨⟨θ', hv⟩, h5, h6⟩ => by
          obtain ⟨p, hp⟩ := ptz_ok b2 θ'
          exact ⟨p, hv.trans hp, h5, h6⟩)
      · have S := spc_out hc a7 (fun x hx => by rw [List.mem_singleton.1 hx]; rfl)
        exact S.weak (fun v I' H' ⟨⟨θ', hv⟩, h5, h6⟩ => by
          obtain ⟨p, hp⟩ := ptz_ok b3 θ'
          exact ⟨p, hv.trans hp, h5, h6⟩)
      · exact fun s hs => (bareF_ok hc b5.2 s hs).2
    · intro x hx
      simp only [PG.I, List.mem_cons, List.mem_map] at hx
      rcases hx with rfl | rfl | rfl | ⟨z, hzm, rfl⟩
      · exact memI_A hm
      · simp only [hRl]
        rw [hfl _ _ r1]
        exact k3
      · simp only [zl]
        rw [hz]
        exact e3
      · exact (z2 z hzm).1
  · cases e
theorem hkGram_ok (hO : okF Tryz.prog 37 = true) : HkOk Tryz.prog 37 (hkGram 83 74 40 82) := fun call hc hb h nx args v h' nx' he => by
  unfold hkGram at he
  simp only at he
  split at he
  · next cs =>
    obtain ⟨u, h1, h2⟩ := ob_inv he
    cases h2
    refine .quiet hO (fun A => trivial) fun θ w hm hwa => ?_
    obtain ⟨G, im, e1, hG, hI⟩ := gramF_ok hc hm (hwa _ (List.mem_singleton.2 rfl)) h1
    refine ⟨G.I im, hI, ?_⟩
    have e2 : (AV.agg cs).dec θ = .agg G.C.toArray := by simp only [AV.dec, decL_map, e1]
    rw [List.map_cons, List.map_nil, e2]
    exact gcheck_yes G im hG
  · cases he
end Go.Proofs.YthgjgeapfndeeaaGreatDoor
