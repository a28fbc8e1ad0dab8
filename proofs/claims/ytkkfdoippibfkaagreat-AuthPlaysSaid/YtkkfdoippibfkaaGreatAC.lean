import Derived.Test.YtkkfdoippibfkaaGreatBase
import Derived.Test.YtkkfdoippibfkaaGreatProg
import Derived.KernelRfl
import Derived.Test.YtkkfdoippibfkaaGreatKF
import Derived.Test.YtkkfdoippibfkaaGreatAB
/- Readers of plain values. -/
namespace Go.Proofs.YtkkfdoippibfkaaGreat
open Go.PK
noncomputable def rU8 : Rdr Tryz.prog 5 B8 := Rdr.u8 (by kernel_rfl) (by kernel_rfl)
noncomputable def rInt : Rdr Tryz.prog 3 Int := Rdr.int .i64 (by kernel_rfl) (by kernel_rfl)
noncomputable def rU32 : Rdr Tryz.prog 32 Int := Rdr.int .u32 (by kernel_rfl) (by kernel_rfl)
noncomputable def rBool : Rdr Tryz.prog 4 Bool := Rdr.bool (by kernel_rfl) (by kernel_rfl)
noncomputable def rKey : Rdr Tryz.prog 56 (List B8) := rU8.array 32 1 (by kernel_rfl) (by kernel_rfl) (by kernel_rfl) (List.map U8) (flat_one U8)
end Go.Proofs.YtkkfdoippibfkaaGreat

/- Readers of frames. -/
namespace Go.Proofs.YtkkfdoippibfkaaGreat
open Go.PK
noncomputable def rU64 : Rdr Tryz.prog 33 Int := Rdr.int .u64 (by kernel_rfl) (by kernel_rfl)
noncomputable def rBytes : Rdr Tryz.prog 34 (Sl B8) := rU8.slice 1 (by kernel_rfl) (by kernel_rfl) (by kernel_rfl) (by decide) (List.map U8) (flat_one U8)
noncomputable def rTag : Rdr Tryz.prog 36 (List B8) := rU8.array 16 1 (by kernel_rfl) (by kernel_rfl) (by kernel_rfl) (List.map U8) (flat_one U8)
/-- A frame that came in. -/
structure FrA where
  f : Fr
  p : Option Addr
  c : Nat
abbrev FrA.sl (x : FrA) : Value := .slice x.p x.f.b.length x.c
structure FrA.Ok (x : FrA) : Prop where
  f : x.f.Ok
  c : x.f.b.length ≤ x.c
  b : x.f.b.length ≤ maxLen
set_option maxRecDepth 100000
noncomputable def rFr : Rdr Tryz.prog 38 FrA :=
  Rdr.struct (fs := [Field.mk "Kind" 3 0 false "" "" 0, Field.mk "Source" 3 1 false "" "" 8, Field.mk "Epoch" 32 2 false "" "" 16, Field.mk "Counter" 33 3 false "" "" 24, Field.mk "Body" 34 4 false "" "" 32, Field.mk "Tag" 36 5 false "" "" 56].toArray) (tot := 21) (α := Int × Int × Int × Int × Sl B8 × List B8 × Unit)
    (by kernel_rfl) (by kernel_rfl)
    (.cons (k := 1) rInt rfl (by kernel_rfl) (by decide) (.cons (k := 1) rInt rfl (by kernel_rfl) (by decide) (.cons (k := 1) rU32 rfl (by kernel_rfl) (by decide) (.cons (k := 1) rU64 rfl (by kernel_rfl) (by decide) (.cons (k := 1) rBytes rfl (by kernel_rfl) (by decide) (.cons (k := 16) rTag rfl (by kernel_rfl) (by decide) .nil))))))
    (fun x => x.f.cells x.sl) (fun x => [sls x.p 1 x.f.b.length (bytes x.f.b)]) FrA.Ok
    (fun ⟨kd, sr, ep, ct, s, tg, _⟩ h => by
      obtain ⟨h1, h2, h3, h4, h5, h6, -⟩ := h
      obtain ⟨h6, h6'⟩ := h6
      obtain ⟨h5, h5', -⟩ := h5
      have h5 : s.l.length ≤ s.c := h5
      have h5' : s.c ≤ maxLen := h5'
      have hb := wfk_bounds h3
      have hb : 0 ≤ ep ∧ ep ≤ 4294967295 := hb
      have hc := wfk_bounds h4
      have hc : 0 ≤ ct ∧ ct ≤ 18446744073709551615 := hc
      refine ⟨⟨⟨kd, sr, ep.toNat, ct.toNat, s.l, tg⟩, s.p, s.c⟩, ?_, ⟨⟨by show ep.toNat < _; omega, by show ct.toNat < _; omega, h6⟩, h5, Nat.le_trans h5 h5'⟩, ?_⟩
      · show _ = [Value.int .i64 kd] ++ ([Value.int .i64 sr] ++ ([Value.int .u32 ep] ++ ([Value.int .u64 ct] ++ ([Value.slice s.p s.l.length s.c] ++ (bytes tg ++ [])))))
        simp [Fr.cells, Int.toNat_of_nonneg hb.1, Int.toNat_of_nonneg hc.1]
      · intro y hy
        rw [List.mem_singleton.1 hy]
        simp [Flds.cons, rBytes, Rdr.slice])
    (fun x h => fr_len h.f.tag _)
end Go.Proofs.YtkkfdoippibfkaaGreat

/- Readers of a guard's acts. -/
namespace Go.Proofs.YtkkfdoippibfkaaGreat
open Go.PK
set_option maxRecDepth 100000
noncomputable def rInts : Rdr Tryz.prog 41 (Sl Int) := rInt.slice 1 (by kernel_rfl) (by kernel_rfl) (by kernel_rfl) (by decide) (List.map (Value.int .i64)) (flat_one _)
noncomputable def rMark : Rdr Tryz.prog 40 (Nat × Nat) :=
  Rdr.struct (fs := [Field.mk "Epoch" 32 0 false "" "" 0, Field.mk "Counter" 33 1 false "" "" 8].toArray) (tot := 2) (α := Int × Int × Unit)
    (by kernel_rfl) (by kernel_rfl)
    (.cons (k := 1) rU32 rfl (by kernel_rfl) (by decide) (.cons (k := 1) rU64 rfl (by kernel_rfl) (by decide) .nil))
    (fun p => [.int .u32 (p.1 : Int), .int .u64 (p.2 : Int)]) (fun _ => []) (fun p => p.1 < 4294967296 ∧ p.2 < 18446744073709551616)
    (fun ⟨e, c, _⟩ h => by
      obtain ⟨h3, h4, -⟩ := h
      have hb := wfk_bounds h3
      have hb : 0 ≤ e ∧ e ≤ 4294967295 := hb
      have hc := wfk_bounds h4
      have hc : 0 ≤ c ∧ c ≤ 18446744073709551615 := hc
      refine ⟨(e.toNat, c.toNat), ?_, ⟨by show e.toNat < _; omega, by show c.toNat < _; omega⟩, by simp⟩
      show _ = [Value.int .u32 e] ++ ([Value.int .u64 c] ++ [])
      simp [Int.toNat_of_nonneg hb.1, Int.toNat_of_nonneg hc.1])
    (fun _ _ => rfl)
/-- A call of a guard. -/
structure Act19 where
  d : Int
  s : Int
  t : Int
  g : Int
  x : FrA
  sg : Bool
  nr : Bool
  tu : B8
  e : Nat
  m : Nat × Nat
  ks : Sl Int
def Act19.cells (a : Act19) : List Value := .int .i64 a.d :: .int .i64 a.s :: .int .i64 a.t :: .int .i64 a.g :: (a.x.f.cells a.x.sl ++ [.bool a.sg, .bool a.nr, U8 a.tu, .int .u32 (a.e : Int), .int .u32 (a.m.1 : Int), .int .u64 (a.m.2 : Int), .slice a.ks.p a.ks.l.length a.ks.c])
structure Act19.Ok (a : Act19) : Prop where
  x : a.x.Ok
  e : a.e < 4294967296
  m1 : a.m.1 < 4294967296
  m2 : a.m.2 < 18446744073709551616
  k1 : a.ks.l.length ≤ a.ks.c
  k2 : a.ks.c ≤ maxLen
def Act19.its (a : Act19) : List It := [sls a.x.p 1 a.x.f.b.length (bytes a.x.f.b), sls a.ks.p 1 a.ks.l.length (a.ks.l.map (Value.int .i64))]
theorem act19_len {a : Act19} (h : a.Ok) : a.cells.length = 32 := by
  have := fr_len h.x.f.tag a.x.sl
  simp [Act19.cells, this]
set_option maxRecDepth 100000
noncomputable def rAct19 : Rdr Tryz.prog 43 Act19 :=
  Rdr.struct (fs := [Field.mk "Do" 3 0 false "" "" 0, Field.mk "Source" 3 1 false "" "" 8, Field.mk "Tick" 3 2 false "" "" 16, Field.mk "Grace" 3 3 false "" "" 24, Field.mk "F" 38 4 false "" "" 32, Field.mk "Signed" 4 25 false "" "" 104, Field.mk "Near" 4 26 false "" "" 105, Field.mk "Turn" 5 27 false "" "" 106, Field.mk "Epoch" 32 28 false "" "" 108, Field.mk "Mark" 40 29 false "" "" 112, Field.mk "Kinds" 41 31 false "" "" 128].toArray) (tot := 32) (α := Int × Int × Int × Int × FrA × Bool × Bool × B8 × Int × (Nat × Nat) × Sl Int × Unit)
    (by kernel_rfl) (by kernel_rfl)
    (.cons (k := 1) rInt rfl (by kernel_rfl) (by decide) (.cons (k := 1) rInt rfl (by kernel_rfl) (by decide) (.cons (k := 1) rInt rfl (by kernel_rfl) (by decide) (.cons (k := 1) rInt rfl (by kernel_rfl) (by decide) (.cons (k := 21) rFr rfl (by kernel_rfl) (by decide) (.cons (k := 1) rBool rfl (by kernel_rfl) (by decide) (.cons (k := 1) rBool rfl (by kernel_rfl) (by decide) (.cons (k := 1) rU8 rfl (by kernel_rfl) (by decide) (.cons (k := 1) rU32 rfl (by kernel_rfl) (by decide) (.cons (k := 2) rMark rfl (by kernel_rfl) (by decide) (.cons (k := 1) rInts rfl (by kernel_rfl) (by decide) .nil)))))))))))
    Act19.cells Act19.its Act19.Ok
    (fun ⟨d, s, t, g, x, sg, nr, tu, e, m, ks, _⟩ h => by
      obtain ⟨h1, h2, h3, h4, h5, h6, h7, h8, h9, h10, h11, -⟩ := h
      obtain ⟨k1, k2, -⟩ := h11
      have k1 : ks.l.length ≤ ks.c := k1
      have k2 : ks.c ≤ maxLen := k2
      have hb := wfk_bounds h9
      have hb : 0 ≤ e ∧ e ≤ 4294967295 := hb
      refine ⟨⟨d, s, t, g, x, sg, nr, tu, e.toNat, m, ks⟩, ?_, ⟨h5, by show e.toNat < _; omega, h10.1, h10.2, k1, k2⟩, ?_⟩
      · show _ = [Value.int .i64 d] ++ ([Value.int .i64 s] ++ ([Value.int .i64 t] ++ ([Value.int .i64 g] ++ (x.f.cells x.sl ++ ([Value.bool sg] ++ ([Value.bool nr] ++ ([U8 tu] ++ ([Value.int .u32 e] ++ ([Value.int .u32 (m.1 : Int), Value.int .u64 (m.2 : Int)] ++ ([Value.slice ks.p ks.l.length ks.c] ++ []))))))))))
        simp [Act19.cells, Int.toNat_of_nonneg hb.1]
      · intro y hy
        simp only [Act19.its, List.mem_cons, List.not_mem_nil, or_false] at hy
        rcases hy with rfl | rfl
        · simp [Flds.cons, rFr, Rdr.struct]
        · simp [Flds.cons, rInts, Rdr.slice])
    (fun _ h => act19_len h)
end Go.Proofs.YtkkfdoippibfkaaGreat

namespace Go.Proofs.YtkkfdoippibfkaaGreat
open Go.PK

/-! ### The chapter's example -/
def key7 : List B8 := 7#8 :: List.replicate 31 0#8
def f19z : Fr := ⟨2, 1, 1, 4, [], List.replicate 16 0#8⟩
def f19 : Fr := f19z.sign key7
theorem f19z_ok : f19z.Ok := ⟨by decide, by decide, rfl⟩
theorem f19_ok : f19.Ok := Fr.sign_ok f19z_ok _
def l0 : List Lk := List.replicate 8 ⟨0, 0, 0⟩
structure Ex19 (g : GSt) (b : Nat) : Prop where
  t : g.T = [⟨1, key7, 1, -1, b⟩]
  l : g.l = l0
  y : g.Y 1 2 = true
theorem ex19_put (b : Nat) : putT [] 1 key7 b = [⟨1, key7, 1, -1, b⟩] ∧ putE [] 1 = 0 := by simp [putT, putE, mayB, atO]
theorem ex19_src (b : Nat) : srcT g0 1 key7 [2] b = [⟨1, key7, 1, -1, b⟩] ∧ srcE g0 1 [2] = 0 ∧ srcY g0 1 [2] = addY g0.Y 1 [2] := by
  have h : ¬ (([2] : List Int) = [] ∨ ([2] : List Int).any oddG = true) := by simp [oddG]
  have e : srcE g0 1 [2] = 0 := by rw [srcE, if_neg h]; exact (ex19_put 0).2
  exact ⟨by rw [srcT, if_neg h]; exact (ex19_put b).1, e, by rw [srcY, if_pos e]⟩
theorem ex19_tok (b : Nat) : TOk [⟨1, key7, 1, -1, b⟩] := ⟨by simp [key7], by simp, by simp, by simp, by simp, by simp⟩
theorem ex19_key {g : GSt} {b : Nat} (h : Ex19 g b) : keyM g.T 1 1 0 = (deriveK key7 epochL 1, 0) := by
  rw [keyM, if_pos (by decide), h.t]
  simp [atO, goesB, hasE]
theorem ex19_may : kmay l0 1 0 = 0 := by decide
theorem ex19_good : goodL l0 1 = l0 := by rfl
theorem ex19_look {g : GSt} {b : Nat} (h : Ex19 g b) {f : Fr} (h1 : f.sr = 1) (h2 : f.kd = 2) (h3 : f.ep = 1) : lookB g f 0 = true ∧ (tagE g f 0 = if f.tag = macTag (deriveK key7 epochL 1) f.signed then 0 else 190) ∧
    lookE g f 0 = if f.tag = macTag (deriveK key7 epochL 1) f.signed then mmay g.M 1 (fmark f) else 190 := by
  have hB : lookB g f 0 = true := by rw [lookB, h1, h2, h.y, h.l, ex19_may]; decide
  have hT : tagE g f 0 = if f.tag = macTag (deriveK key7 epochL 1) f.signed then 0 else 190 := by
    rw [tagE, tagOk, h1, h3, ex19_key h]
    simp
  refine ⟨hB, hT, ?_⟩
  rw [lookE, if_pos (by decide), h1, h2, if_pos h.y, h.l, if_pos ex19_may, hT]
  by_cases hc : f.tag = macTag (deriveK key7 epochL 1) f.signed
  · rw [if_pos hc, if_pos rfl, if_pos hc]
  · rw [if_neg hc, if_neg (by decide), if_neg hc]
theorem f19_tag : f19.tag = macTag (deriveK key7 epochL 1) f19.signed := rfl
theorem ex19_one {g : GSt} {b : Nat} (h : Ex19 g b) (B : GB) (hM : mmay g.M 1 (1, 4) = 0 ∨ mmay g.M 1 (1, 4) = 170) : lookE g f19 0 = mmay g.M 1 (1, 4) ∧ lookL B g f19 0 = l0 ∧ lookM g f19 0 = takeM g.M 1 (1, 4) := by
  obtain ⟨hB, hT, hE⟩ := ex19_look h (f := f19) rfl rfl rfl
  rw [if_pos f19_tag] at hT hE
  refine ⟨hE, ?_, by rw [lookM, if_pos hB, if_pos hT]; rfl⟩
  rw [lookL, if_pos hB, if_pos hT]
  have e : mmay g.M f19.sr (fmark f19) = mmay g.M 1 (1, 4) := rfl
  rw [e]
  rcases hM with hM | hM
  · rw [if_pos hM, h.l]; exact ex19_good
  · rw [if_neg (by rw [hM]; decide), h.l]
theorem turned {l : List B8} (h : l.length = 16) : ∃ x r, l = x :: r ∧ (x + 1#8) :: r ≠ l := by
  match l, h with
  | x :: r, _ => exact ⟨x, r, rfl, fun e => by
      have := (List.cons.inj e).1
      have h2 : x + 1#8 ≠ x := by
        intro h
        have h1 := congrArg BitVec.toNat h
        rw [BitVec.toNat_add] at h1
        have h3 := x.isLt
        simp at h1
        omega
      exact h2 this⟩
end Go.Proofs.YtkkfdoippibfkaaGreat

namespace Go.Proofs.YtkkfdoippibfkaaGreat
open Go.PK

theorem Lend.nilS' {I F J : List It} {sz : Nat} (h : Lend I F J) : Lend I F (PK.sls none sz 0 [] :: J) := .of (fun _ _ => ⟨by simp, rfl⟩) (fun c hc => by simp [PK.sls] at hc) h
theorem fill_f19 : fillL (#[(0, 1), (1, 1), (2, 1), (3, 1), (4, 1), (5, 16)][·]?) (.int .i64 0 :: .int .i64 0 :: .int .u32 0 :: .int .u64 0 :: .slice none 0 0 :: bytes (List.replicate 16 0#8)) [(0, .int .i64 2), (1, .int .i64 1), (2, .int .u32 1), (3, .int .u64 4)] = some (f19z.cells (.slice none 0 0)) := rfl
theorem works19 : Spc Tryz.prog 6 #[] [] [] (Is (.bool true)) := by
  have hl := fr_len f19_ok.tag (.slice none 0 0)
  refine Spc.enter Tryz.func6 rfl rfl rfl (fun w0 hw0 => ?_)
  refine CW.seq ?_
  refine CW.region (ef := []) (bk := []) ?_
  refine RL.assign rfl rfl rfl rfl ?_
  refine RL.nil ?_
  refine NQ.seq ?_
  refine CW.seq ?_
  refine CW.region (ef := [0]) (bk := []) ?_
  refine RL.callq (gnew_yes 3 10 (by decide) (by decide) (by decide) (by decide)) Tryz.call7 rfl rfl rfl rfl rfl (.inl rfl) ?_
  rintro _ _ _ ⟨B, hmo', hti', rfl, rfl, rfl⟩
  have hmo : B.mo ≠ 0 := by rw [hmo']; decide
  refine RL.move rfl rfl rfl rfl ?_
  refine RL.extract rfl rfl rfl rfl rfl ?_
  refine RL.extract rfl rfl rfl rfl rfl ?_
  refine RL.assign rfl rfl rfl rfl ?_
  refine RL.assign rfl rfl rfl rfl ?_
  refine RL.nil ?_
  refine NQ.seq ?_
  refine CW.only (.cons (k := 1) rfl .nil) ?_
  refine CW.seq ?_
  refine CW.seq ?_
  refine CW.region (ef := []) (bk := []) ?_
  refine RL.move rfl rfl rfl rfl ?_
  refine RL.cmp rfl rfl rfl rfl rfl (eql_ptr Tryz.runUnderlying24 _) ?_
  refine RL.nil ?_
  refine NQ.seq ?_
  refine CW.condF rfl (rfl) ?_
  refine CW.skip ?_
  refine NQ.seq ?_
  refine CW.seq ?_
  refine CW.region (ef := [2, 3]) (bk := [3]) ?_
  refine RL.move rfl rfl rfl rfl ?_
  refine RL.buildA (bytes key7) Tryz.zeroValue56 Tryz.runUnderlying56 Tryz.sizeOf5 rfl rfl rfl rfl rfl ?_
  refine RL.buildSlice [_] Tryz.runUnderlying41 Tryz.sizeOf3 Tryz.zeroValue3 rfl rfl (by decide) (by decide) rfl rfl rfl rfl rfl rfl ?_
  intro b1
  refine RL.call (gsource_any B g0 1 key7 (some ⟨b1, 0, none⟩) 1 1 [2] g0_ok rfl rfl (by decide)) Tryz.call16 rfl rfl rfl rfl rfl (by repeat (first | exact Pick.nil | apply Pick.take | apply Pick.leave)) (Lend.all (by repeat (first | exact List.Mem.head _ | apply List.Mem.tail)) rfl .nil) (.inr rfl) ?_
  rintro _ _ _ ⟨rfl, rfl, bk, c1', cy1, hk1, hy1, rfl⟩
  rw [(ex19_src bk).1] at hk1 ⊢
  rw [(ex19_src bk).2.2] at hy1 ⊢
  rw [(ex19_src bk).2.1]
  generalize hG1 : ({ g0 with T := [⟨1, key7, 1, -1, bk⟩], c := c1', Y := addY g0.Y 1 [2], cy := cy1 } : GSt) = g1
  have x1 : Ex19 g1 bk := by subst hG1; exact ⟨rfl, rfl, rfl⟩
  have o1 : GOk g1 := by subst hG1; exact ⟨ex19_tok bk, hk1, rfl, fun _ => rfl, hy1, fun _ => rfl⟩
  have hM1 : g1.M = fun _ => none := by subst hG1; rfl
  have hD1 : g1.D = fun _ => 0 := by subst hG1; rfl
  have e1 : lookE g1 f19 0 = 0 ∧ lookL B g1 f19 0 = l0 ∧ lookM g1 f19 0 = takeM g1.M 1 (1, 4) := by
    have hz : mmay g1.M 1 (1, 4) = 0 := by rw [hM1]; rfl
    have := ex19_one x1 B (.inl hz)
    rw [hz] at this; exact this
  have hT1 : takeM g1.M 1 (1, 4) 1 = some (1, 4) := by rw [hM1]; rfl
  have y1 := x1.t
  refine RL.assign rfl rfl rfl rfl ?_
  refine RL.nil ?_
  refine NQ.seq ?_
  refine CW.only (.cons (k := 1) rfl (.cons (k := 3) rfl .nil)) ?_
  refine CW.seq ?_
  refine CW.region (ef := [3, 4]) (bk := [4]) ?_
  refine RL.buildA (bytes key7) Tryz.zeroValue56 Tryz.runUnderlying56 Tryz.sizeOf5 rfl rfl rfl rfl rfl ?_
  refine RL.buildS (f19z.cells (.slice none 0 0)) Tryz.zeroValue38 pl_38 rfl rfl rfl rfl rfl ?_
  refine RL.callv (sign_any f19z key7 none 0 0 rfl f19z_ok rfl (by decide)) Tryz.call20 rfl rfl rfl rfl (Lend.nilS' .nil) ?_
  refine RL.alloc Tryz.zeroValue38 rfl rfl rfl rfl rfl ?_
  intro b2
  refine RL.storeW (vs := f19.cells (.slice none 0 0)) Tryz.sizeOf38 rfl rfl rfl rfl rfl rfl rfl (ones_fr _ rfl) (by repeat (first | exact Upd.here | apply Upd.there)) hl rfl ?_
  refine RL.nil ?_
  refine NQ.seq ?_
  refine CW.seq ?_
  refine CW.regionD (.cons 0 (.cons 1 (.cons 3 (.fork [2, 4] (fun k => (bif Nat.beq k 2 then (Sq.of [4, 5, 6, 7]) else (Sq.of [2, 5, 6, 7]))))))) [2, 5] [2, 5] [0, 3, 6, 7] mixed (by kernel_rfl) ?_
  refine RL.move rfl rfl rfl rfl ?_
  first | refine RL.loadM Tryz.isAgg38 Tryz.sizeOf38 rfl rfl rfl rfl (by assumption) ?_ | refine RL.loadA Tryz.isAgg38 Tryz.sizeOf38 rfl rfl rfl rfl (by first | assumption | (apply RdsI.rds; assumption)) (by first | rfl | assumption | (simp only [List.length_map]; assumption) | (simp only [List.length_map, List.length_replicate, hl]; done) | (simp; done)) ?_ | refine RL.loadW Tryz.isAgg38 Tryz.sizeOf38 rfl rfl rfl rfl (by (solve | (repeat (first | exact List.Mem.head _ | apply List.Mem.tail)))) (by first | rfl | assumption | (simp only [List.length_map]; assumption) | (simp only [List.length_map, List.length_replicate, hl]; done) | (simp; done)) ?_
  refine RL.move rfl rfl rfl rfl ?_
  obtain ⟨x, r, hxr, hne⟩ := turned f19_ok.tag
  have hr : ((x + 1#8) :: r).length = 16 := by have := f19_ok.tag; rw [hxr] at this; exact this
  have gq : (f19.cells (.slice none 0 0))[0 + 5 + 0 * 1]? = some (U8 x) := by
    show (bytes f19.tag)[0]? = _
    rw [hxr]; rfl
  have hst : spl (f19.cells (.slice none 0 0)) (0 + 5 + 0 * 1) [U8 (x + 1#8)] = ({ f19 with tag := (x + 1#8) :: r } : Fr).cells (.slice none 0 0) := by
    have e : f19.cells (.slice none 0 0) = [.int .i64 2, .int .i64 1, .int .u32 1, .int .u64 4, .slice none 0 0] ++ bytes f19.tag := rfl
    rw [e, hxr, spl_set (by simp)]; rfl
  generalize hF3 : ({ f19 with tag := (x + 1#8) :: r } : Fr) = f3 at hst
  have o3f : f3.Ok := by subst hF3; exact ⟨f19_ok.ep, f19_ok.ct, hr⟩
  have hl3 := fr_len o3f.tag (.slice none 0 0)
  have ht3 : ¬ f3.tag = macTag (deriveK key7 epochL 1) f3.signed := by
    subst hF3
    intro e
    apply hne
    exact e
  refine RL.fork ⟨?_, ?_, trivial⟩
  ·
    refine RL.call (gcheck_any B g1 f19 none 0 0 0 hmo o1 f19_ok rfl (by decide)) Tryz.call14 rfl rfl rfl rfl rfl (by repeat (first | exact Pick.nil | apply Pick.take | apply Pick.leave)) (Lend.nilS' .nil) (.inr rfl) ?_
    rintro _ _ _ ⟨rfl, rfl, cm2, ct2, hcm2, hct2, rfl⟩
    rw [e1.1] at hct2 ⊢
    rw [e1.2.2] at hcm2 ⊢
    rw [e1.2.1]
    generalize hG2 : ({ g1 with l := l0, M := takeM g1.M 1 (1, 4), cm := cm2, D := chkD g1.D 0, ct := ct2 } : GSt) = g2
    have x2 : Ex19 g2 bk := by subst hG2; exact ⟨x1.t, rfl, x1.y⟩
    have o2 : GOk g2 := by subst hG2; exact ⟨o1.t, o1.k, rfl, hcm2, o1.y, hct2⟩
    have hM2 : g2.M = takeM g1.M 1 (1, 4) := by subst hG2; rfl
    have hD2 : g2.D = chkD g1.D 0 := by subst hG2; rfl
    have e2 : lookE g2 f19 0 = 170 ∧ lookL B g2 f19 0 = l0 ∧ lookM g2 f19 0 = g2.M := by
      have hz : mmay g2.M 1 (1, 4) = 170 := by rw [hM2, mmay, if_pos (by decide), hT1]; rfl
      have := ex19_one x2 B (.inr hz)
      rw [hz] at this
      refine ⟨this.1, this.2.1, ?_⟩
      rw [this.2.2, takeM, if_neg (by rw [hz]; decide)]
    first | refine RL.loadM Tryz.isAgg38 Tryz.sizeOf38 rfl rfl rfl rfl (by assumption) ?_ | refine RL.loadA Tryz.isAgg38 Tryz.sizeOf38 rfl rfl rfl rfl (by first | assumption | (apply RdsI.rds; assumption)) (by first | rfl | assumption | (simp only [List.length_map]; assumption) | (simp only [List.length_map, List.length_replicate, hl]; done) | (simp; done)) ?_ | refine RL.loadW Tryz.isAgg38 Tryz.sizeOf38 rfl rfl rfl rfl (by (solve | (repeat (first | exact List.Mem.head _ | apply List.Mem.tail)))) (by first | rfl | assumption | (simp only [List.length_map]; assumption) | (simp only [List.length_map, List.length_replicate, hl]; done) | (simp; done)) ?_
    refine RL.call (gcheck_any B g2 f19 none 0 0 0 hmo o2 f19_ok rfl (by decide)) Tryz.call14 rfl rfl rfl rfl rfl (by repeat (first | exact Pick.nil | apply Pick.take | apply Pick.leave)) (Lend.nilS' .nil) (.inr rfl) ?_
    rintro _ _ _ ⟨rfl, rfl, cm3, ct3, hcm3, hct3, rfl⟩
    rw [e2.1] at hct3 ⊢
    rw [e2.2.2] at hcm3 ⊢
    rw [e2.2.1]
    generalize hG3 : ({ g2 with l := l0, M := g2.M, cm := cm3, D := chkD g2.D 170, ct := ct3 } : GSt) = g3
    have x3 : Ex19 g3 bk := by subst hG3; exact ⟨x2.t, rfl, x2.y⟩
    have o3 : GOk g3 := by subst hG3; exact ⟨o2.t, o2.k, rfl, hcm3, o2.y, hct3⟩
    have hD3 : g3.D = chkD g2.D 170 := by subst hG3; rfl
    have e3 : lookE g3 f3 0 = 190 := by
      obtain ⟨-, -, hE⟩ := ex19_look x3 (f := f3) (by subst hF3; rfl) (by subst hF3; rfl) (by subst hF3; rfl)
      rw [hE, if_neg ht3]
    refine RL.assign rfl rfl rfl rfl ?_
    refine RL.assign rfl rfl rfl rfl ?_
    refine RL.nil ?_
    refine NQ.seq ?_
    refine CW.only (.cons (k := 1) rfl (.cons (k := 3) rfl (.cons (k := 4) rfl (.cons (k := 5) rfl (.cons (k := 6) rfl .nil))))) ?_
    refine CW.seq ?_
    refine CW.region (ef := [6]) (bk := [6]) ?_
    refine RL.fieldAddr fa_38_5 rfl rfl rfl rfl ?_
    refine RL.idxAAt (j := 0) Tryz.runUnderlying36 Tryz.sizeOf5 rfl rfl rfl rfl rfl rfl (by decide) ?_
    refine RL.loadq Tryz.isAgg5 rfl rfl rfl rfl ?_
    refine RL.bv8 (a := _) (b := 1#8) add8 rfl rfl rfl rfl rfl ?_
    refine RL.fieldAddr fa_38_5 rfl rfl rfl rfl ?_
    refine RL.idxAAt (j := 0) Tryz.runUnderlying36 Tryz.sizeOf5 rfl rfl rfl rfl rfl rfl (by decide) ?_
    refine RL.storeX (cs' := f3.cells (.slice none 0 0)) (vs := [_]) hst Tryz.sizeOf5 rfl rfl rfl rfl rfl rfl rfl rfl (by repeat (first | exact Upd.here | apply Upd.there)) (by rw [hl]; simp) ?_
    refine RL.nil ?_
    refine NQ.seq ?_
    refine CW.only (.cons (k := 1) rfl (.cons (k := 3) rfl (.cons (k := 4) rfl (.cons (k := 5) rfl (.cons (k := 6) rfl .nil))))) ?_
    refine CW.seq ?_
    refine CW.region (ef := [13, 18]) (bk := [13]) ?_
    refine RL.move rfl rfl rfl rfl ?_
    refine RL.bin rfl rfl rfl rfl rfl rfl ?_
    refine RL.move rfl rfl rfl rfl ?_
    apply RL.andB (d := 34) (dp := 37) (l' := (Sq.of [6, 7, 8, 9, 10, 11, 12, 13, 14, 15, 16, 17, 18, 19, 20, 21])) rfl (.cons (k := 1) rfl (.cons (k := 4) rfl (.cons (k := 6) rfl .nil)))
    ·
      intro hb3 K3
      refine RL.move rfl rfl rfl rfl ?_
      refine RL.bin rfl rfl rfl rfl rfl rfl ?_
      refine RL.pickT rfl rfl rfl rfl rfl ?_
      exact K3 _ (.cons rfl (.cons (k := 1) rfl (.cons (k := 4) rfl (.cons (k := 6) rfl .nil))))
    ·
      intro hb3 K3
      refine RL.skip rfl rfl rfl rfl ?_
      refine RL.skip rfl rfl rfl rfl ?_
      refine RL.pickF rfl rfl rfl rfl rfl ?_
      exact K3 _ (.cons rfl (.cons (k := 1) rfl (.cons (k := 4) rfl (.cons (k := 6) rfl .nil))))
    refine RL.move rfl rfl rfl rfl ?_
    apply RL.andB (d := 38) (dp := 41) (l' := (Sq.of [10, 11, 12, 13, 14, 15, 16, 17, 18, 19, 20, 21])) rfl (.cons (k := 1) rfl (.cons (k := 4) rfl .nil))
    ·
      intro hb7 K7
      refine RL.move rfl rfl rfl rfl ?_
      refine RL.bin rfl rfl rfl rfl rfl rfl ?_
      refine RL.pickT rfl rfl rfl rfl rfl ?_
      exact K7 _ (.cons rfl (.cons (k := 1) rfl (.cons (k := 4) rfl .nil)))
    ·
      intro hb7 K7
      refine RL.skip rfl rfl rfl rfl ?_
      refine RL.skip rfl rfl rfl rfl ?_
      refine RL.pickF rfl rfl rfl rfl rfl ?_
      exact K7 _ (.cons rfl (.cons (k := 1) rfl (.cons (k := 4) rfl .nil)))
    refine RL.move rfl rfl rfl rfl ?_
    refine RL.cast (d := 42) (v' := .bool true) rfl (rfl) ?_
    refine RL.move rfl rfl rfl rfl ?_
    first | refine RL.loadM Tryz.isAgg38 Tryz.sizeOf38 rfl rfl rfl rfl (by assumption) ?_ | refine RL.loadA Tryz.isAgg38 Tryz.sizeOf38 rfl rfl rfl rfl (by first | assumption | (apply RdsI.rds; assumption)) (by first | rfl | assumption | (simp only [List.length_map]; assumption) | (simp only [List.length_map, List.length_replicate, hl3]; done) | (simp; done)) ?_ | refine RL.loadW Tryz.isAgg38 Tryz.sizeOf38 rfl rfl rfl rfl (by (solve | (repeat (first | exact List.Mem.head _ | apply List.Mem.tail)))) (by first | rfl | assumption | (simp only [List.length_map]; assumption) | (simp only [List.length_map, List.length_replicate, hl3]; done) | (simp; done)) ?_
    refine RL.call (gcheck_any B g3 f3 none 0 0 0 hmo o3 o3f (by subst hF3; rfl) (by decide)) Tryz.call14 rfl rfl rfl rfl rfl (by repeat (first | exact Pick.nil | apply Pick.take | apply Pick.leave)) (by rw [show bytes f3.b = [] by subst hF3; rfl]; exact Lend.nilS' .nil) (.inr rfl) ?_
    rintro _ _ _ ⟨rfl, rfl, cm4, ct4, -, hct4, rfl⟩
    rw [e3] at hct4 ⊢
    refine RL.bin rfl rfl rfl rfl rfl rfl ?_
    refine RL.pickT rfl rfl rfl rfl rfl ?_
    refine RL.move rfl rfl rfl rfl ?_
    apply RL.andB (d := 48) (dp := 52) (l' := (Sq.of [21])) rfl .nil
    ·
      intro hb17 K17
      refine RL.move rfl rfl rfl rfl ?_
      refine RL.callvq (gcount_any B ct4 (chkD g3.D 190) 0 hct4) Tryz.call23 rfl rfl rfl rfl ?_
      refine RL.bin rfl rfl rfl rfl rfl rfl ?_
      refine RL.pickT rfl rfl rfl rfl rfl ?_
      exact K17 _ (.cons rfl .nil)
    ·
      intro hb17 K17
      refine RL.skip rfl rfl rfl rfl ?_
      refine RL.skip rfl rfl rfl rfl ?_
      refine RL.skip rfl rfl rfl rfl ?_
      refine RL.pickF rfl rfl rfl rfl rfl ?_
      exact K17 _ (.cons rfl .nil)
    refine RL.assign rfl rfl rfl rfl ?_
    refine RL.nil ?_
    refine NQ.seq ?_
    refine CW.ret ?_
    exact RQ.post (res1 rfl rfl) (Split.none _) ⟨by rw [hD3, hD2, hD1]; rfl, rfl, rfl⟩
  ·
    first | refine RL.loadM Tryz.isAgg38 Tryz.sizeOf38 rfl rfl rfl rfl (by assumption) ?_ | refine RL.loadA Tryz.isAgg38 Tryz.sizeOf38 rfl rfl rfl rfl (by first | assumption | (apply RdsI.rds; assumption)) (by first | rfl | assumption | (simp only [List.length_map]; assumption) | (simp only [List.length_map, List.length_replicate, hl3]; done) | (simp; done)) ?_ | refine RL.loadW Tryz.isAgg38 Tryz.sizeOf38 rfl rfl rfl rfl (by (solve | (repeat (first | exact List.Mem.head _ | apply List.Mem.tail)))) (by first | rfl | assumption | (simp only [List.length_map]; assumption) | (simp only [List.length_map, List.length_replicate, hl3]; done) | (simp; done)) ?_
    refine RL.call (gcheck_any B g1 f19 none 0 0 0 hmo o1 f19_ok rfl (by decide)) Tryz.call14 rfl rfl rfl rfl rfl (by repeat (first | exact Pick.nil | apply Pick.take | apply Pick.leave)) (Lend.nilS' .nil) (.inr rfl) ?_
    rintro _ _ _ ⟨rfl, rfl, cm2, ct2, hcm2, hct2, rfl⟩
    rw [e1.1] at hct2 ⊢
    rw [e1.2.2] at hcm2 ⊢
    rw [e1.2.1]
    generalize hG2 : ({ g1 with l := l0, M := takeM g1.M 1 (1, 4), cm := cm2, D := chkD g1.D 0, ct := ct2 } : GSt) = g2
    have x2 : Ex19 g2 bk := by subst hG2; exact ⟨x1.t, rfl, x1.y⟩
    have o2 : GOk g2 := by subst hG2; exact ⟨o1.t, o1.k, rfl, hcm2, o1.y, hct2⟩
    have hM2 : g2.M = takeM g1.M 1 (1, 4) := by subst hG2; rfl
    have hD2 : g2.D = chkD g1.D 0 := by subst hG2; rfl
    have e2 : lookE g2 f19 0 = 170 ∧ lookL B g2 f19 0 = l0 ∧ lookM g2 f19 0 = g2.M := by
      have hz : mmay g2.M 1 (1, 4) = 170 := by rw [hM2, mmay, if_pos (by decide), hT1]; rfl
      have := ex19_one x2 B (.inr hz)
      rw [hz] at this
      refine ⟨this.1, this.2.1, ?_⟩
      rw [this.2.2, takeM, if_neg (by rw [hz]; decide)]
    refine RL.call (gcheck_any B g2 f19 none 0 0 0 hmo o2 f19_ok rfl (by decide)) Tryz.call14 rfl rfl rfl rfl rfl (by repeat (first | exact Pick.nil | apply Pick.take | apply Pick.leave)) (Lend.nilS' .nil) (.inr rfl) ?_
    rintro _ _ _ ⟨rfl, rfl, cm3, ct3, hcm3, hct3, rfl⟩
    rw [e2.1] at hct3 ⊢
    rw [e2.2.2] at hcm3 ⊢
    rw [e2.2.1]
    generalize hG3 : ({ g2 with l := l0, M := g2.M, cm := cm3, D := chkD g2.D 170, ct := ct3 } : GSt) = g3
    have x3 : Ex19 g3 bk := by subst hG3; exact ⟨x2.t, rfl, x2.y⟩
    have o3 : GOk g3 := by subst hG3; exact ⟨o2.t, o2.k, rfl, hcm3, o2.y, hct3⟩
    have hD3 : g3.D = chkD g2.D 170 := by subst hG3; rfl
    have e3 : lookE g3 f3 0 = 190 := by
      obtain ⟨-, -, hE⟩ := ex19_look x3 (f := f3) (by subst hF3; rfl) (by subst hF3; rfl) (by subst hF3; rfl)
      rw [hE, if_neg ht3]
    refine RL.assign rfl rfl rfl rfl ?_
    refine RL.assign rfl rfl rfl rfl ?_
    refine RL.nil ?_
    refine NQ.seq ?_
    refine CW.only (.cons (k := 1) rfl (.cons (k := 3) rfl (.cons (k := 4) rfl (.cons (k := 5) rfl (.cons (k := 6) rfl .nil))))) ?_
    refine CW.seq ?_
    refine CW.region (ef := [6]) (bk := [6]) ?_
    refine RL.fieldAddr fa_38_5 rfl rfl rfl rfl ?_
    refine RL.idxAAt (j := 0) Tryz.runUnderlying36 Tryz.sizeOf5 rfl rfl rfl rfl rfl rfl (by decide) ?_
    refine RL.loadq Tryz.isAgg5 rfl rfl rfl rfl ?_
    refine RL.bv8 (a := _) (b := 1#8) add8 rfl rfl rfl rfl rfl ?_
    refine RL.fieldAddr fa_38_5 rfl rfl rfl rfl ?_
    refine RL.idxAAt (j := 0) Tryz.runUnderlying36 Tryz.sizeOf5 rfl rfl rfl rfl rfl rfl (by decide) ?_
    refine RL.storeX (cs' := f3.cells (.slice none 0 0)) (vs := [_]) hst Tryz.sizeOf5 rfl rfl rfl rfl rfl rfl rfl rfl (by repeat (first | exact Upd.here | apply Upd.there)) (by rw [hl]; simp) ?_
    refine RL.nil ?_
    refine NQ.seq ?_
    refine CW.only (.cons (k := 1) rfl (.cons (k := 3) rfl (.cons (k := 4) rfl (.cons (k := 5) rfl (.cons (k := 6) rfl .nil))))) ?_
    refine CW.seq ?_
    refine CW.region (ef := [13]) (bk := [13]) ?_
    refine RL.move rfl rfl rfl rfl ?_
    refine RL.bin rfl rfl rfl rfl rfl rfl ?_
    refine RL.move rfl rfl rfl rfl ?_
    apply RL.andB (d := 34) (dp := 37) (l' := (Sq.of [6, 7, 8, 9, 10, 11, 12, 13, 14, 15, 16, 17, 18, 19, 20, 21])) rfl (.cons (k := 1) rfl (.cons (k := 4) rfl (.cons (k := 6) rfl .nil)))
    ·
      intro hb3 K3
      refine RL.move rfl rfl rfl rfl ?_
      refine RL.bin rfl rfl rfl rfl rfl rfl ?_
      refine RL.pickT rfl rfl rfl rfl rfl ?_
      exact K3 _ (.cons rfl (.cons (k := 1) rfl (.cons (k := 4) rfl (.cons (k := 6) rfl .nil))))
    ·
      intro hb3 K3
      refine RL.skip rfl rfl rfl rfl ?_
      refine RL.skip rfl rfl rfl rfl ?_
      refine RL.pickF rfl rfl rfl rfl rfl ?_
      exact K3 _ (.cons rfl (.cons (k := 1) rfl (.cons (k := 4) rfl (.cons (k := 6) rfl .nil))))
    refine RL.move rfl rfl rfl rfl ?_
    apply RL.andB (d := 38) (dp := 41) (l' := (Sq.of [10, 11, 12, 13, 14, 15, 16, 17, 18, 19, 20, 21])) rfl (.cons (k := 1) rfl (.cons (k := 4) rfl .nil))
    ·
      intro hb7 K7
      refine RL.move rfl rfl rfl rfl ?_
      refine RL.bin rfl rfl rfl rfl rfl rfl ?_
      refine RL.pickT rfl rfl rfl rfl rfl ?_
      exact K7 _ (.cons rfl (.cons (k := 1) rfl (.cons (k := 4) rfl .nil)))
    ·
      intro hb7 K7
      refine RL.skip rfl rfl rfl rfl ?_
      refine RL.skip rfl rfl rfl rfl ?_
      refine RL.pickF rfl rfl rfl rfl rfl ?_
      exact K7 _ (.cons rfl (.cons (k := 1) rfl (.cons (k := 4) rfl .nil)))
    refine RL.move rfl rfl rfl rfl ?_
    refine RL.cast (d := 42) (v' := .bool true) rfl (rfl) ?_
    refine RL.move rfl rfl rfl rfl ?_
    first | refine RL.loadM Tryz.isAgg38 Tryz.sizeOf38 rfl rfl rfl rfl (by assumption) ?_ | refine RL.loadA Tryz.isAgg38 Tryz.sizeOf38 rfl rfl rfl rfl (by first | assumption | (apply RdsI.rds; assumption)) (by first | rfl | assumption | (simp only [List.length_map]; assumption) | (simp only [List.length_map, List.length_replicate, hl3]; done) | (simp; done)) ?_ | refine RL.loadW Tryz.isAgg38 Tryz.sizeOf38 rfl rfl rfl rfl (by (solve | (repeat (first | exact List.Mem.head _ | apply List.Mem.tail)))) (by first | rfl | assumption | (simp only [List.length_map]; assumption) | (simp only [List.length_map, List.length_replicate, hl3]; done) | (simp; done)) ?_
    refine RL.call (gcheck_any B g3 f3 none 0 0 0 hmo o3 o3f (by subst hF3; rfl) (by decide)) Tryz.call14 rfl rfl rfl rfl rfl (by repeat (first | exact Pick.nil | apply Pick.take | apply Pick.leave)) (by rw [show bytes f3.b = [] by subst hF3; rfl]; exact Lend.nilS' .nil) (.inr rfl) ?_
    rintro _ _ _ ⟨rfl, rfl, cm4, ct4, -, hct4, rfl⟩
    rw [e3] at hct4 ⊢
    refine RL.bin rfl rfl rfl rfl rfl rfl ?_
    refine RL.pickT rfl rfl rfl rfl rfl ?_
    refine RL.move rfl rfl rfl rfl ?_
    apply RL.andB (d := 48) (dp := 52) (l' := (Sq.of [21])) rfl .nil
    ·
      intro hb17 K17
      refine RL.move rfl rfl rfl rfl ?_
      refine RL.callvq (gcount_any B ct4 (chkD g3.D 190) 0 hct4) Tryz.call23 rfl rfl rfl rfl ?_
      refine RL.bin rfl rfl rfl rfl rfl rfl ?_
      refine RL.pickT rfl rfl rfl rfl rfl ?_
      exact K17 _ (.cons rfl .nil)
    ·
      intro hb17 K17
      refine RL.skip rfl rfl rfl rfl ?_
      refine RL.skip rfl rfl rfl rfl ?_
      refine RL.skip rfl rfl rfl rfl ?_
      refine RL.pickF rfl rfl rfl rfl rfl ?_
      exact K17 _ (.cons rfl .nil)
    refine RL.assign rfl rfl rfl rfl ?_
    refine RL.nil ?_
    refine NQ.seq ?_
    refine CW.ret ?_
    exact RQ.post (res1 rfl rfl) (Split.none _) ⟨by rw [hD3, hD2, hD1]; rfl, rfl, rfl⟩
end Go.Proofs.YtkkfdoippibfkaaGreat
