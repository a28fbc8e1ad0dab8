import Derived.Test.YthndhipjfdgdfaaGreatDoorGX
import Derived.Test.YthndhipjfdgdfaaGreatDoorB1
import Derived.Test.YthndhipjfdgdfaaGreatDoorWB
import Derived.Test.YthndhipjfdgdfaaGreatDoorMA
set_option linter.unusedVariables false
set_option linter.unusedSimpArgs false
namespace Go.Proofs.YthndhipjfdgdfaaGreatDoor
open Go.PK Go.RowKit Go.Shelf
/-! ### Lines written -/
theorem bxtra : Builder.Extra Tryz.prog Tryz.lJoin_ren where
  sizeBuilder := by kernel_rfl
  liesBuilder := by kernel_rfl
  t5 := by kernel_rfl
  a5 := Tryz.isAgg5
  z5 := Tryz.sizeOf5
  v5 := Tryz.zeroValue5
  infoByte := by kernel_rfl
  cellsByte := by kernel_rfl
  sizeByte := by kernel_rfl
  neB5 := by decide
theorem join_any (c : B8) (q cap n : Nat) (l : List Tx) (hn : l.length = n) (hc : n ≤ cap) (hb : n ≤ 1000000) (hs : l.flatten.length ≤ 100000000) : Spc Tryz.prog 22 #[.slice (some ⟨q, 0, none⟩) n cap, .string (txt [c])] [sls (some ⟨q, 0, none⟩) 1 n (l.map strV)] [] (Is (strV (jnL c l))) := by
  subst hn
  by_cases h0 : l = []
  · subst h0
    exact Spc.ofB fun w hw => (Any.strings_Join_none Tryz.lJoin bxtra (some ⟨q, 0, none⟩) cap (txt [c]) w).mono (by
      rintro e w' ⟨rfl, rfl⟩
      exact ⟨rfl, Below.refl _ _⟩)
  · refine Spc.ofB fun w hw => ?_
    have hA : (sls (some ⟨q, 0, none⟩) 1 l.length (l.map strV)).A w := hw.i _ (List.Mem.head _)
    obtain ⟨-, hlt, hcell⟩ := hA
    have h1 : (l.map txt).length = l.length := by simp
    have e1 : (l.map txt).map (fun b => b.data.toList) = l.map (List.map UInt8.ofBitVec) := by rw [List.map_map]; exact List.map_congr_left fun a _ => txt_data a
    have e2 : Lib.join ((l.map txt).map (fun b => b.data.toList)) (txt [c]).data.toList = (jnL c l).map UInt8.ofBitVec := by
      rw [e1, txt_data, List.map_cons, List.map_nil, join_jn, ← jnL_map]
    have := Any.strings_Join Tryz.lJoin bxtra q 0 cap (l.map txt) (txt [c]) w (fun j x hj => by
      rw [List.getElem?_map] at hj
      cases hlj : l[j]? with
      | none => rw [hlj] at hj; cases hj
      | some s =>
        rw [hlj] at hj
        have := hcell j (strV s) (by rw [List.getElem?_map, hlj]; rfl)
        rw [add_none] at this
        rw [this, ← Option.some.inj hj]) (hlt (by intro h; exact h0 (List.length_eq_zero_iff.1 h))) (by rw [h1]; omega) (by rw [h1]; exact hc) (by
          have := jnL_len c l
          rw [e2, List.length_map]; omega)
    rw [h1, e2] at this
    exact this
section
variable {P : Program} {L : List Oper} {ef bk : List Nat} {tq : Tq} {Q : Exit → Act → World → Prop} {N : Fm} {E : Env} {w0 : World} {S : List Nat} {I H : List It} {i : Nat} {l : Sq}
variable {d : Nat} {x y : Operand} {ty t yt : TypeId} {pos : String} {af : Array Edge} {g : Option (Nat × Bool)}
theorem txt_app (a b : Tx) : txt a ++ txt b = txt (a ++ b) := by
  apply ByteArray.ext
  simp [txt]
theorem RL.addTxt {a b : Tx} (ho : nth L i = some ⟨some d, .binOp .add t x y yt, ty, pos, af, g⟩) (hw : wants L E ⟨some d, .binOp .add t x y yt, ty, pos, af, g⟩ = true) (hN : Nat.blt d N.n = true)
    (hx : E.ev x = some (strV a)) (hy : E.ev y = some (strV b)) (hm : a.length + b.length ≤ 4000000000) (h : RL P L ef bk tq Q l N ((d, strV (a ++ b)) :: E) w0 S I H) : RL P L ef bk tq Q (.cons i l) N E w0 S I H :=
  RL.pval ho hw rfl hN (fun _ w ha => by
    have h2 : ((txt a).size : Int) + ((txt b).size : Int) ≤ 9223372036854775807 := by rw [txt_size, txt_size]; omega
    have hmx : IntKind.i64.max = 9223372036854775807 := rfl
    have h3 : ¬ (9223372036854775807 : Int) < ((txt a).size : Int) + ((txt b).size : Int) := by omega
    simp [execOp, ha.ev hx, ha.ev hy, eqGuard, binOp, Op.stringOp, hmx, h3, txt_app]) h
end
theorem wline_any (b : Nat) (p : Option Addr) (hp : p = none ∨ p = me b) (ob : Option Nat) (cap n : Nat) (l : Tx) (q cp m : Nat) (ws : List Tx) (hm : ws.length = m) (hc : m ≤ cp) (hb : m ≤ 1000000) (hs : ws.flatten.length ≤ 100000000) (hn : n + (lnP ws).length ≤ 1000000000) :
    Spc Tryz.prog 26 #[.pointer (me b), .slice (some ⟨q, 0, none⟩) m cp] [sls (some ⟨q, 0, none⟩) 1 m (ws.map strV)] (bdL 87 b p ob cap n l)
      (fun r I' H' => ∃ ob' cap', r = .tuple #[] ∧ I' = [] ∧ H' = bdL 87 b (me b) ob' cap' (n + (lnP ws).length) (l ++ lnP ws) ∧ ob'.isSome = true) := by
  have hj := jnL_len 32#8 ws
  dsimp only [bdL]
  refine Spc.enter Tryz.func26 rfl rfl rfl (fun w0 hw0 => ?_)
  refine CW.regionD (Sq.of [0, 1, 2, 3, 4, 5, 6]) [6] [6] [0, 1, 2, 3, 5] mixed (by kernel_rfl) ?_
  refine RL.p rfl (RL.p rfl (RL.fieldAddr fa_87_0 rfl rfl rfl rfl (RL.p rfl (RL.callvq (join_any 32#8 q cp m ws hm hc hb hs) Tryz.call22 rfl rfl rfl rfl ?_))))
  refine RL.addTxt (a := jnL 32#8 ws) (b := [10#8]) rfl rfl rfl rfl rfl (by simp only [List.length_cons, List.length_nil]; omega) ?_
  refine RL.callq (bwrite_any 87 bd_writer b p hp ob cap n l (lnP ws) hn) Tryz.call56 rfl rfl rfl rfl rfl (.inr rfl) ?_
  rintro _ _ _ ⟨ob1, cap1, rfl, rfl, rfl, ho1⟩
  refine RL.nil ?_
  exact NQ.post (res0 rfl) (.keep (.keep .nil)) ⟨ob1, cap1, rfl, rfl, rfl, ho1.resolve_left (by rw [lnP, List.length_append, List.length_singleton]; omega)⟩
theorem gito_any (n : Int) (h1 : -9223372036854775808 ≤ n) (h2 : n ≤ 9223372036854775807) : Spc Tryz.prog 28 #[.int .i64 n] [gvI] [] (Is (strV (itoT n))) := by
  have hw : Value.int .i64 (IntKind.i64.wrap n) = .int .i64 n := wrapV_i64 h1 h2
  refine Spc.enter Tryz.func28 rfl rfl rfl (fun w0 hw0 => ?_)
  refine CW.seq (CW.rg (RL.p rfl (RL.nil (NQ.seq (CW.seq (CW.rg (RL.p rfl (RL.callvq (fmt_any n h1 h2) Tryz.call64 rfl rfl rfl rfl ?_))))))))
  refine RL.p rfl (RL.nil (NQ.seq (CW.ret ?_)))
  exact RQ.post (res1 rfl rfl) (Split.none _) ⟨rfl, rfl, rfl⟩
theorem gitoF_any (n : Int) (h1 : -9223372036854775808 ≤ n) (h2 : n ≤ 9223372036854775807) : Spc Tryz.prog 27 #[.int .i64 n] [gvI] [] (Is (strV (itoT n))) := by
  have hw : Value.int .i64 (IntKind.i64.wrap n) = .int .i64 n := wrapV_i64 h1 h2
  refine Spc.enter Tryz.func27 rfl rfl rfl (fun w0 hw0 => ?_)
  refine CW.seq (CW.rg (RL.p rfl (RL.nil (NQ.seq (CW.seq (CW.rg (RL.p rfl (RL.callvq (fmt_any n h1 h2) Tryz.call64 rfl rfl rfl rfl ?_))))))))
  refine RL.p rfl (RL.nil (NQ.seq (CW.ret ?_)))
  exact RQ.post (res1 rfl rfl) (Split.none _) ⟨rfl, rfl, rfl⟩
end Go.Proofs.YthndhipjfdgdfaaGreatDoor

namespace Go.Proofs.YthndhipjfdgdfaaGreatDoor
open Go.PK
/-! ### A key written -/
theorem dgX_at : ∀ n : Fin 16, dgX[n.val]? = some (hexc n.val) := by decide
theorem hexT_len : ∀ k : List B8, (hexT k).length = 2 * k.length
  | [] => rfl
  | a :: r => by
    have := hexT_len r
    simp only [hexT, List.flatMap_cons, List.length_append, List.length_cons, List.length_nil] at this ⊢
    omega
theorem hexT_step {k : List B8} {i : Nat} {c : B8} (h : k[i]? = some c) : hexT (k.take (i + 1)) = hexT (k.take i) ++ [hexc (c.toNat / 16)] ++ [hexc (c.toNat % 16)] := by
  rw [List.take_add_one, h, hexT, hexT, List.flatMap_append]
  simp
theorem and15 (c : B8) : (c &&& 15#8).toNat = c.toNat % 16 := by
  have : ∀ n : Fin 256, (BitVec.ofFin n &&& 15#8).toNat = n.val % 16 := by decide +kernel
  exact this c.toFin
theorem ghex_any (k : List B8) (hk : k.length = 32) : Spc Tryz.prog 29 #[.agg (bytes k).toArray] [] [] (Is (strV (hexT k))) := by
  have hbl : (bytes k).length = 32 := by rw [List.length_map, hk]
  refine Spc.enter Tryz.func29 rfl rfl rfl (fun w0 hw0 => ?_)
  refine CW.seq (CW.region (ef := [0]) (bk := []) (RL.box rfl rfl rfl rfl rfl rfl ?_))
  intro b1
  refine RL.p rfl (RL.nil (NQ.seq (CW.seq (CW.region (ef := [0]) (bk := []) (RL.alloc Tryz.zeroValue85 rfl rfl rfl rfl rfl ?_)))))
  intro b2
  refine RL.nil (NQ.seq (CW.seq (CW.seq (CW.rg (RL.loadW Tryz.isAgg29 Tryz.sizeOf29 rfl rfl rfl rfl (by repeat (first | exact List.Mem.head _ | apply List.Mem.tail)) (by first | rfl | assumption | (simp only [List.length_map]; assumption) | (simp only [List.length_map, List.length_replicate, hbl]; done) | (simp; done)) ?_)))))
  refine RL.p rfl (RL.nil (NQ.seq (CW.block ?_)))
  refine CW.loop (γ := Nat × Option Nat × Nat) (fun g => g.1 ≤ 32 ∧ (0 < g.1 → g.2.1.isSome = true)) (fun g => [(3, .pointer (some ⟨b2, 0, none⟩)), (6, .agg (bytes k).toArray), (7, .int .i64 (g.1 : Int))]) (fun _ => []) (fun g => bdL 85 b2 (if g.1 = 0 then none else me b2) g.2.1 g.2.2 (2 * g.1) (hexT (k.take g.1))) (fun g => 32 - g.1) (0, none, 0) ⟨by omega, by omega⟩ (.cons rfl (.cons rfl (.cons rfl .nil))) (fun w h => ?_) ?_
  · dsimp only [bdL]
    rw [if_pos rfl]
    exact (Cls.ownNone (e := 5) (sz := 1) h).rea (fun _ h => h) (by repeat (first | exact Rea.nil | (apply Rea.cons; (solve | (repeat (first | exact Del.here | apply Del.there))))))
  rintro ⟨i, ob, cap⟩ ⟨hi, hob⟩
  dsimp only at hi hob ⊢
  have hp : (if i = 0 then none else me b2) = none ∨ (if i = 0 then none else me b2) = me b2 := by by_cases h : i = 0 <;> simp [h]
  generalize hpp : (if i = 0 then none else me b2) = p at hp ⊢
  dsimp only [bdL]
  refine CW.seq (CW.rg (RL.p rfl (RL.nil (NQ.seq (CW.seq ?_)))))
  refine CW.cond rfl (fun hlt => ?_) (fun hlt => ?_)
  · have hlt' : i < 32 := by simp at hlt; omega
    have hc : k[i]? = some (k[i]'(by omega)) := List.getElem?_eq_getElem (by omega)
    generalize k[i]'(by omega) = c at hc
    have hq1 := dgX_at ⟨c.toNat / 16, by have := c.isLt; omega⟩
    have hq2 := dgX_at ⟨c.toNat % 16, by omega⟩
    have hst := hexT_step hc
    refine CW.skip (NQ.seq (CW.seq (CW.block (CW.seq (CW.rg ?_)))))
    refine RL.index (j := i) (v := U8 c) Tryz.runUnderlying29 Tryz.sizeOf5 Tryz.isAgg5 rfl rfl rfl rfl rfl rfl hlt' (by rw [Nat.mul_one, List.getElem?_toArray, List.getElem?_map, hc]; rfl) ?_
    refine RL.p rfl (RL.nil (NQ.seq (CW.seq (CW.region (ef := [3]) (bk := [3]) (RL.p rfl (RL.shr 4 rfl rfl rfl rfl rfl rfl (by decide) ?_))))))
    refine RL.cast (d := 11) (v' := .int .u8 ((c.toNat / 16 : Nat) : Int)) rfl (by congr 1; rw [Int.fdiv_eq_ediv_of_nonneg _ (by decide)]; simp) ?_
    refine RL.idxTxt (j := c.toNat / 16) (s := dgX) Tryz.runUnderlying9 rfl rfl rfl rfl rfl rfl hq1 (RL.callq (bbyte_any 85 bd_own b2 p hp ob cap (2 * i) (hexT (k.take i)) (hexc (c.toNat / 16)) (by omega)) Tryz.call65 rfl rfl rfl rfl rfl (.inr rfl) ?_)
    rintro _ _ _ ⟨ob1, cap1, rfl, rfl, rfl, ho1⟩
    refine RL.nil (NQ.seq (CW.ok [3, 5, 6, 7] rfl (CW.region (ef := [3]) (bk := [3]) (RL.p rfl (RL.bv8 (b := 15#8) and8 rfl rfl rfl rfl rfl (RL.idxTxt (j := c.toNat % 16) (s := dgX) Tryz.runUnderlying9 rfl rfl rfl rfl rfl (by rw [and15]) hq2 ?_))))))
    refine RL.callq (bbyte_any 85 bd_own b2 (me b2) (.inr rfl) ob1 cap1 (2 * i + 1) (hexT (k.take i) ++ [hexc (c.toNat / 16)]) (hexc (c.toNat % 16)) (by omega)) Tryz.call65 rfl rfl rfl rfl rfl (.inr rfl) ?_
    rintro _ _ _ ⟨ob2, cap2, rfl, rfl, rfl, ho2⟩
    refine RL.nil (NQ.block (NQ.seq (CW.rg (RL.bx rfl (wrapV_i64 (by omega) (by omega)) ?_))))
    refine RL.p rfl (RL.nil ?_)
    refine NQ.round (g := (i, ob, cap)) (i + 1, ob2, cap2) ⟨hlt', fun _ => ho2⟩ (by show 32 - (i + 1) < 32 - i; omega) (.cons rfl (.cons rfl (.cons rfl .nil))) (fun w h => ?_)
    dsimp only
    rw [if_neg (by omega), hst, show 2 * (i + 1) = 2 * i + 1 + 1 by omega]
    exact h.les (fun _ h => h) (Les.front _ _)
  · have hi' : i = 32 := by simp at hlt; omega
    subst hi'
    obtain ⟨q, rfl⟩ := Option.isSome_iff_exists.1 (hob (by decide))
    refine CW.exit (XQ.seq (XQ.seq (XQ.hit (NQ.seq (CW.seq (CW.region (ef := [0]) (bk := [0]) (RL.callq (bstr_any 85 b2 p q cap (2 * 32) (hexT (k.take 32)) (by rw [hexT_len, List.length_take]; omega) (by decide) (by decide)) Tryz.call33 rfl rfl rfl rfl rfl (.inr rfl) ?_)))))))
    rintro _ _ _ ⟨rfl, rfl, rfl⟩
    refine RL.p rfl (RL.nil (NQ.seq (CW.ret ?_)))
    exact RQ.post (res1 rfl rfl) (Split.none _) ⟨by rw [List.take_of_length_le (by omega)], rfl, rfl⟩
end Go.Proofs.YthndhipjfdgdfaaGreatDoor

namespace Go.Proofs.YthndhipjfdgdfaaGreatDoor
open Go.PK
/-! ### Sources and zones written -/
def Sr.nums (s : Sr) : List Int := [s.id, s.kd, s.w, s.g, s.st, s.hz, s.wt.go, s.wt.gg, s.wt.gm, s.wt.sl, s.wt.mo, s.wt.sa, s.wt.ra, s.wt.ba, s.wt.ho, s.wt.pr]
structure Sr.All (s : Sr) : Prop where
  rt : s.rt.length = 32
  n : ∀ n ∈ s.nums, i64 n
def Zn.nums (z : Zn) : List Int := z.fl :: z.rf :: z.L.flatMap fun p => [p.1, p.2]
theorem decT_len20 {n : Nat} (h : n < 18446744073709551616) : (decT n).length ≤ 20 := decT_len n 19 (by omega) (by omega)
theorem itoT_len {v : Int} (h : i64 v) : (itoT v).length ≤ 21 := by
  obtain ⟨h1, h2⟩ := h
  rw [itoT]
  split
  · have := decT_len20 (n := v.natAbs) (by omega)
    simp; omega
  · have := decT_len20 (n := v.toNat) (by omega)
    omega
theorem flat_le {l : List Tx} {k : Nat} (h : ∀ s ∈ l, s.length ≤ k) : l.flatten.length ≤ l.length * k := by
  induction l with
  | nil => simp
  | cons a r ih =>
    have h1 := h a (List.mem_cons_self ..)
    have h2 := ih fun s hs => h s (List.mem_cons_of_mem _ hs)
    rw [List.flatten_cons, List.length_append, List.length_cons, Nat.add_mul]; omega
theorem lnP_len {l : List Tx} {k : Nat} (h : ∀ s ∈ l, s.length ≤ k) : (lnP l).length ≤ l.length * (k + 1) + 1 := by
  have h1 := flat_le h
  have h2 := jnL_len 32#8 l
  rw [lnP, List.length_append, List.length_singleton, Nat.mul_add]; omega
theorem srcP_le {s : Sr} (hs : s.All) : (∀ t ∈ srcP s, t.length ≤ 64) ∧ (srcP s).length ≤ 18 := by
  have h := fun n hn => itoT_len (hs.n n hn)
  have hr := hexT_len s.rt
  rw [hs.rt] at hr
  constructor
  · intro t ht
    rw [srcP] at ht
    simp only [List.mem_cons] at ht
    rcases ht with rfl | rfl | rfl | rfl | ht
    · decide
    · have := h s.id (by simp [Sr.nums]); omega
    · have := h s.kd (by simp [Sr.nums]); omega
    · omega
    · split at ht
      · simp only [List.mem_cons, List.not_mem_nil, or_false] at ht
        rcases ht with rfl | rfl | rfl | rfl | rfl | rfl | rfl | rfl | rfl | rfl | rfl | rfl | rfl | rfl <;> refine Nat.le_trans (h _ (by simp [Sr.nums])) (by decide)
      · cases ht
  · rw [srcP]; split <;> simp
theorem srcP_flat {s : Sr} (hs : s.All) : (srcP s).flatten.length ≤ 2000 ∧ (lnP (srcP s)).length ≤ 2000 := by
  obtain ⟨h1, h2⟩ := srcP_le hs
  have h3 := flat_le h1
  have h4 := lnP_len h1
  omega
def WrR (b : Nat) (n : Nat) (l : Tx) : Value → List It → List It → Prop := fun r I' H' => ∃ ob' cap', r = .tuple #[] ∧ I' = [] ∧ H' = bdL 87 b (me b) ob' cap' n l ∧ ob'.isSome = true
theorem wrsrc_any (b : Nat) (p : Option Addr) (hp : p = none ∨ p = me b) (ob : Option Nat) (cap n : Nat) (l : Tx) (s : Sr) (hs : s.All) (hn : n ≤ 100000000) :
    Spc Tryz.prog 31 #[.pointer (me b), .agg s.cells.toArray] [gvI] (bdL 87 b p ob cap n l) (WrR b (n + (lnP (srcP s)).length) (l ++ lnP (srcP s))) := by
  have hrt := hs.rt
  have hsl := sr_len hrt
  have hrl : (bytes s.rt).length = 32 := by rw [List.length_map, hrt]
  obtain ⟨hf1, hf2⟩ := srcP_flat hs
  have h : ∀ n ∈ s.nums, i64 n := hs.n
  have hid := h s.id (by simp [Sr.nums])
  have hkd := h s.kd (by simp [Sr.nums])
  dsimp only [bdL]
  refine Spc.enter Tryz.func31 rfl rfl rfl (fun w0 hw0 => ?_)
  refine CW.seq (CW.region (ef := [0]) (bk := []) (RL.box rfl rfl rfl rfl rfl rfl ?_))
  intro b1
  refine RL.nil (NQ.seq (CW.seq (CW.freezeP (A := [cel b1 s.cells 98]) (B := [cel b [.pointer p, slO ob n cap] 87, own ob cap 5 1 n (bytes l)]) (by repeat (first | exact Pick.nil | apply Pick.take | apply Pick.leave)) rfl ?_)))
  refine CW.genI (fun J hJ => ?_)
  have m1 : cel b1 s.cells 98 ∈ J := hJ _ (by simp)
  have mG : gvI ∈ J := hJ _ (by simp)
  clear hJ
  have f0 : RdI J ⟨b1, 0 + 0, none⟩ (.int .i64 s.id) := ⟨fun _ => Rd.celI m1 rfl⟩
  have f1 : RdI J ⟨b1, 0 + 1, none⟩ (.int .i64 s.kd) := ⟨fun _ => Rd.celI m1 rfl⟩
  have f2 : RdsN J ⟨b1, 0 + 2, none⟩ 32 (bytes s.rt) := RdsN.told m1 (sr_rt hrt) hrl
  have fA : RdsN J ⟨b1, 0, none⟩ 48 s.cells := RdsN.told m1 (fun j u hu => by rw [Nat.zero_add]; exact hu) hsl
  refine CW.regionD (Sq.of [0, 1, 2, 3, 4, 5, 6, 7, 8, 9, 10]) [9] [] [0, 1, 2, 3, 4, 5, 6, 7, 8, 10] mixed (by kernel_rfl) ?_
  refine RL.fieldAddr fa_98_0 rfl rfl rfl rfl (RL.loadTq Tryz.isAgg3 rfl rfl rfl rfl ?_)
  refine RL.callvT (gito_any s.id hid.1 hid.2) Tryz.call28 rfl rfl rfl rfl (.inI mG .nil) (RL.fieldAddr fa_98_1 rfl rfl rfl rfl (RL.loadTq Tryz.isAgg3 rfl rfl rfl rfl ?_))
  refine RL.callvT (gito_any s.kd hkd.1 hkd.2) Tryz.call28 rfl rfl rfl rfl (.inI mG .nil) (RL.fieldAddr fa_98_2 rfl rfl rfl rfl (RL.loadSTq Tryz.isAgg29 Tryz.sizeOf29 rfl rfl rfl rfl ?_))
  refine RL.callvT (ghex_any s.rt hrt) Tryz.call29 rfl rfl rfl rfl .nil (RL.buildOwn [_, _, _, _] Tryz.runUnderlying62 Tryz.sizeOf9 Tryz.zeroValue9 rfl rfl (by decide) (by decide) rfl (by decide) rfl rfl rfl rfl rfl rfl ?_)
  intro b2
  refine RL.p rfl (RL.nil (NQ.seq (CW.ok [0, 3, 4] rfl (CW.seq (CW.seq (CW.rg (RL.loadSq Tryz.isAgg98 Tryz.sizeOf98 rfl rfl rfl rfl ?_)))))))
  refine RL.callvq (gaid_any' s) Tryz.call67 rfl rfl rfl rfl ?_
  refine RL.nil (NQ.seq ?_)
  have hw1 : ∀ xs : List Tx, xs = srcP s → ∀ (q cp : Nat), xs.length ≤ cp → Spc Tryz.prog 26 #[.pointer (me b), .slice (some ⟨q, 0, none⟩) xs.length cp] [sls (some ⟨q, 0, none⟩) 1 xs.length (xs.map strV)] (bdL 87 b p ob cap n l) (WrR b (n + (lnP (srcP s)).length) (l ++ lnP (srcP s))) := by
    rintro xs rfl q cp hc
    exact wline_any b p hp ob cap n l q cp _ (srcP s) rfl hc (by have := (srcP_le hs).2; omega) (by omega) (by omega)
  dsimp only [bdL] at hw1
  refine CW.cond rfl (fun ha => ?_) (fun ha => ?_)
  · have haB : aidB s.kd = true := ha
    have hsp : [nSource, itoT s.id, itoT s.kd, hexT s.rt, itoT s.w, itoT s.g, itoT s.st, itoT s.hz, itoT s.wt.go, itoT s.wt.gg, itoT s.wt.gm, itoT s.wt.sl, itoT s.wt.mo, itoT s.wt.sa, itoT s.wt.ra, itoT s.wt.ba, itoT s.wt.ho, itoT s.wt.pr] = srcP s := by rw [srcP, if_pos haB]
    have g3 : RdsN J ⟨b1, 0 + 38 + 0, none⟩ 3 [.int .i64 s.wt.go, .int .i64 s.wt.gg, .int .i64 s.wt.gm] := RdsN.told m1 (fun j u hu => by
      have hj : j < 3 := (List.getElem?_eq_some_iff.1 hu).1
      rw [Nat.add_zero, sr_w hrt j]
      have : j = 0 ∨ j = 1 ∨ j = 2 := by omega
      rcases this with rfl | rfl | rfl <;> exact hu) rfl
    have g10 : RdsN J ⟨b1, 0 + 38, none⟩ 10 s.wt.cells := RdsN.told m1 (fun j u hu => by rw [sr_w hrt j]; exact hu) rfl
    refine CW.seq ?_
    refine CW.cutG (γ := Nat × Nat) (fun _ => True) (fun g => [(0, .pointer (me b)), (3, .pointer (some ⟨b1, 0, none⟩)), (4, .slice (some ⟨b2, 0, none⟩) 4 4), (5, .pointer (some ⟨g.1, 0, none⟩)), (6, .pointer (some ⟨g.2, 0, none⟩))]) (fun _ => J)
      (fun g => [cel g.1 [.int .i64 s.wt.go, .int .i64 s.wt.gg, .int .i64 s.wt.gm] 94, cel g.2 s.wt.cells 96, own (some b2) 4 9 1 4 ([nSource, itoT s.id, itoT s.kd, hexT s.rt].map strV), cel b [.pointer p, slO ob n cap] 87, own ob cap 5 1 n (bytes l)]) ?_ ?_
    · have hh := h
      refine CW.regionD (.cons 0 (.cons 1 (.cons 2 (.cons 3 (.cons 4 (.fork [5, 6] (fun k => (bif Nat.beq k 5 then (Sq.of [6, 7, 8]) else (Sq.of [5, 7, 8]))))))))) [5, 6, 7, 8] [7, 8] [0, 1, 2, 3, 4] mixed (by kernel_rfl) ?_
      refine RL.fieldAddr fa_98_7 rfl rfl rfl rfl (RL.fieldAddr fa_96_0 rfl rfl rfl rfl (RL.loadSTq Tryz.isAgg94 Tryz.sizeOf94 rfl rfl rfl rfl ?_))
      refine RL.fieldAddr fa_98_7 rfl rfl rfl rfl (RL.loadSTq Tryz.isAgg96 Tryz.sizeOf96 rfl rfl rfl rfl ?_)
      refine RL.fork ⟨?_, ?_, trivial⟩
      ·
        refine RL.alloc Tryz.zeroValue94 rfl rfl rfl rfl rfl ?_
        intro b3
        refine RL.alloc Tryz.zeroValue96 rfl rfl rfl rfl rfl ?_
        intro b4
        refine RL.store (vs := [_, _, _]) Tryz.sizeOf94 rfl rfl rfl rfl rfl rfl rfl rfl rfl (by repeat (first | exact Upd.here | apply Upd.there)) ?_
        refine RL.store (vs := [_, _, _, _, _, _, _, _, _, _]) Tryz.sizeOf96 rfl rfl rfl rfl rfl rfl rfl rfl rfl (by repeat (first | exact Upd.here | apply Upd.there)) ?_
        refine RL.nil ?_
        exact NQ.midG (b3, b4) trivial (.cons rfl (.cons rfl (.cons rfl (.cons rfl (.cons rfl .nil))))) (fun w h => h.rea (fun _ h => h) (by repeat (first | exact Rea.nil | (apply Rea.cons; (solve | (repeat (first | exact Del.here | apply Del.there)))))))
      ·
        refine RL.alloc Tryz.zeroValue96 rfl rfl rfl rfl rfl ?_
        intro b4
        refine RL.alloc Tryz.zeroValue94 rfl rfl rfl rfl rfl ?_
        intro b3
        refine RL.store (vs := [_, _, _]) Tryz.sizeOf94 rfl rfl rfl rfl rfl rfl rfl rfl rfl (by repeat (first | exact Upd.here | apply Upd.there)) ?_
        refine RL.store (vs := [_, _, _, _, _, _, _, _, _, _]) Tryz.sizeOf96 rfl rfl rfl rfl rfl rfl rfl rfl rfl (by repeat (first | exact Upd.here | apply Upd.there)) ?_
        refine RL.nil ?_
        exact NQ.midG (b3, b4) trivial (.cons rfl (.cons rfl (.cons rfl (.cons rfl (.cons rfl .nil))))) (fun w h => h.rea (fun _ h => h) (by repeat (first | exact Rea.nil | (apply Rea.cons; (solve | (repeat (first | exact Del.here | apply Del.there)))))))
    rintro ⟨b5, b6⟩ -
    refine CW.freezeP (A := [cel b5 [.int .i64 s.wt.go, .int .i64 s.wt.gg, .int .i64 s.wt.gm] 94, cel b6 s.wt.cells 96]) (B := [own (some b2) 4 9 1 4 ([nSource, itoT s.id, itoT s.kd, hexT s.rt].map strV), cel b [.pointer p, slO ob n cap] 87, own ob cap 5 1 n (bytes l)]) (by repeat (first | exact Pick.nil | apply Pick.take | apply Pick.leave)) rfl ?_
    refine CW.genI (fun J2 hJ2 => ?_)
    have n1 : cel b1 s.cells 98 ∈ J2 := hJ2 _ (by simp [m1])
    have nG : gvI ∈ J2 := hJ2 _ (by simp [mG])
    have n5 : cel b5 [.int .i64 s.wt.go, .int .i64 s.wt.gg, .int .i64 s.wt.gm] 94 ∈ J2 := hJ2 _ (by simp)
    have n6 : cel b6 s.wt.cells 96 ∈ J2 := hJ2 _ (by simp)
    clear hJ2
    obtain ⟨f, hf⟩ : ∃ f : Int → Tx, f = itoT := ⟨_, rfl⟩
    have gI : ∀ n, i64 n → Spc Tryz.prog 28 #[.int .i64 n] [gvI] [] (Is (strV (f n))) := fun n hn => by rw [hf]; exact gito_any n hn.1 hn.2
    have gF : ∀ n, i64 n → Spc Tryz.prog 27 #[.int .i64 n] [gvI] [] (Is (strV (f n))) := fun n hn => by rw [hf]; exact gitoF_any n hn.1 hn.2
    have k0 : RdI J2 ⟨b1, 0 + 34, none⟩ (.int .i64 s.w) := ⟨fun _ => Rd.getI n1 (sr_t hrt 0)⟩
    have k1 : RdI J2 ⟨b1, 0 + 35, none⟩ (.int .i64 s.g) := ⟨fun _ => Rd.getI n1 (sr_t hrt 1)⟩
    have k2 : RdI J2 ⟨b1, 0 + 36, none⟩ (.int .i64 s.st) := ⟨fun _ => Rd.getI n1 (sr_t hrt 2)⟩
    have k3 : RdI J2 ⟨b1, 0 + 37, none⟩ (.int .i64 s.hz) := ⟨fun _ => Rd.getI n1 (sr_t hrt 3)⟩
    have q0 : RdI J2 ⟨b5, 0 + 0, none⟩ (.int .i64 s.wt.go) := ⟨fun _ => Rd.celI n5 rfl⟩
    have q1 : RdI J2 ⟨b5, 0 + 1, none⟩ (.int .i64 s.wt.gg) := ⟨fun _ => Rd.celI n5 rfl⟩
    have q2 : RdI J2 ⟨b5, 0 + 2, none⟩ (.int .i64 s.wt.gm) := ⟨fun _ => Rd.celI n5 rfl⟩
    have r3 : RdI J2 ⟨b6, 0 + 3, none⟩ (.int .i64 s.wt.sl) := ⟨fun _ => Rd.celI n6 rfl⟩
    have r4 : RdI J2 ⟨b6, 0 + 4, none⟩ (.int .i64 s.wt.mo) := ⟨fun _ => Rd.celI n6 rfl⟩
    have r5 : RdI J2 ⟨b6, 0 + 5, none⟩ (.int .i64 s.wt.sa) := ⟨fun _ => Rd.celI n6 rfl⟩
    have r6 : RdI J2 ⟨b6, 0 + 6, none⟩ (.int .i64 s.wt.ra) := ⟨fun _ => Rd.celI n6 rfl⟩
    have r7 : RdI J2 ⟨b6, 0 + 7, none⟩ (.int .i64 s.wt.ba) := ⟨fun _ => Rd.celI n6 rfl⟩
    have r8 : RdI J2 ⟨b6, 0 + 8, none⟩ (.int .i64 s.wt.ho) := ⟨fun _ => Rd.celI n6 rfl⟩
    have r9 : RdI J2 ⟨b6, 0 + 9, none⟩ (.int .i64 s.wt.pr) := ⟨fun _ => Rd.celI n6 rfl⟩
    refine CW.regionD (Sq.of [0, 1, 2, 3, 4, 5, 6, 7, 8, 9, 10, 11, 12, 13, 14, 15, 16, 17, 18, 19, 20, 21, 22, 23, 24, 25, 26, 27, 28, 29, 30, 31, 32, 33, 34, 35, 36, 37, 38, 39, 40, 41, 42, 43, 44, 45]) [43, 44] [44] [0, 1, 2, 3, 4, 5, 6, 7, 8, 9, 10, 11, 12, 13, 14, 15, 16, 17, 18, 19, 20, 21, 22, 23, 24, 25, 26, 27, 28, 29, 30, 31, 32, 33, 34, 35, 36, 37, 38, 39, 40, 41, 42, 45] mixed (by kernel_rfl) ?_
    refine RL.p rfl (RL.fieldAddr fa_98_3 rfl rfl rfl rfl (RL.loadTq Tryz.isAgg3 rfl rfl rfl rfl ?_))
    refine RL.callvT (gI s.w (h _ (by simp [Sr.nums]))) Tryz.call28 rfl rfl rfl rfl (.inI nG .nil) ?_
    refine RL.fieldAddr fa_98_4 rfl rfl rfl rfl (RL.loadTq Tryz.isAgg3 rfl rfl rfl rfl ?_)
    refine RL.callvT (gI s.g (h _ (by simp [Sr.nums]))) Tryz.call28 rfl rfl rfl rfl (.inI nG .nil) ?_
    refine RL.fieldAddr fa_98_5 rfl rfl rfl rfl (RL.loadTq Tryz.isAgg23 rfl rfl rfl rfl ?_)
    refine RL.callvT (gF s.st (h _ (by simp [Sr.nums]))) Tryz.call27 rfl rfl rfl rfl (.inI nG .nil) ?_
    refine RL.fieldAddr fa_98_6 rfl rfl rfl rfl (RL.loadTq Tryz.isAgg3 rfl rfl rfl rfl ?_)
    refine RL.callvT (gI s.hz (h _ (by simp [Sr.nums]))) Tryz.call28 rfl rfl rfl rfl (.inI nG .nil) ?_
    refine RL.fieldAddr fa_94_0 rfl rfl rfl rfl (RL.loadTq Tryz.isAgg23 rfl rfl rfl rfl ?_)
    refine RL.callvT (gF s.wt.go (h _ (by simp [Sr.nums]))) Tryz.call27 rfl rfl rfl rfl (.inI nG .nil) ?_
    refine RL.fieldAddr fa_94_1 rfl rfl rfl rfl (RL.loadTq Tryz.isAgg23 rfl rfl rfl rfl ?_)
    refine RL.callvT (gF s.wt.gg (h _ (by simp [Sr.nums]))) Tryz.call27 rfl rfl rfl rfl (.inI nG .nil) ?_
    refine RL.fieldAddr fa_94_2 rfl rfl rfl rfl (RL.loadTq Tryz.isAgg23 rfl rfl rfl rfl ?_)
    refine RL.callvT (gF s.wt.gm (h _ (by simp [Sr.nums]))) Tryz.call27 rfl rfl rfl rfl (.inI nG .nil) ?_
    refine RL.fieldAddr fa_96_1 rfl rfl rfl rfl (RL.loadTq Tryz.isAgg23 rfl rfl rfl rfl ?_)
    refine RL.callvT (gF s.wt.sl (h _ (by simp [Sr.nums]))) Tryz.call27 rfl rfl rfl rfl (.inI nG .nil) ?_
    refine RL.fieldAddr fa_96_2 rfl rfl rfl rfl (RL.loadTq Tryz.isAgg23 rfl rfl rfl rfl ?_)
    refine RL.callvT (gF s.wt.mo (h _ (by simp [Sr.nums]))) Tryz.call27 rfl rfl rfl rfl (.inI nG .nil) ?_
    refine RL.fieldAddr fa_96_3 rfl rfl rfl rfl (RL.loadTq Tryz.isAgg3 rfl rfl rfl rfl ?_)
    refine RL.callvT (gI s.wt.sa (h _ (by simp [Sr.nums]))) Tryz.call28 rfl rfl rfl rfl (.inI nG .nil) ?_
    refine RL.fieldAddr fa_96_4 rfl rfl rfl rfl (RL.loadTq Tryz.isAgg23 rfl rfl rfl rfl ?_)
    refine RL.callvT (gF s.wt.ra (h _ (by simp [Sr.nums]))) Tryz.call27 rfl rfl rfl rfl (.inI nG .nil) ?_
    refine RL.fieldAddr fa_96_5 rfl rfl rfl rfl (RL.loadTq Tryz.isAgg3 rfl rfl rfl rfl ?_)
    refine RL.callvT (gI s.wt.ba (h _ (by simp [Sr.nums]))) Tryz.call28 rfl rfl rfl rfl (.inI nG .nil) ?_
    refine RL.fieldAddr fa_96_6 rfl rfl rfl rfl (RL.loadTq Tryz.isAgg3 rfl rfl rfl rfl ?_)
    refine RL.callvT (gI s.wt.ho (h _ (by simp [Sr.nums]))) Tryz.call28 rfl rfl rfl rfl (.inI nG .nil) ?_
    refine RL.fieldAddr fa_96_7 rfl rfl rfl rfl (RL.loadTq Tryz.isAgg3 rfl rfl rfl rfl ?_)
    refine RL.callvT (gI s.wt.pr (h _ (by simp [Sr.nums]))) Tryz.call28 rfl rfl rfl rfl (.inI nG .nil) ?_
    refine RL.buildOwn [strV (f s.w), strV (f s.g), strV (f s.st), strV (f s.hz), strV (f s.wt.go), strV (f s.wt.gg), strV (f s.wt.gm), strV (f s.wt.sl), strV (f s.wt.mo), strV (f s.wt.sa), strV (f s.wt.ra), strV (f s.wt.ba), strV (f s.wt.ho), strV (f s.wt.pr)] Tryz.runUnderlying62 Tryz.sizeOf9 Tryz.zeroValue9 rfl rfl (by decide) (by decide) rfl (by decide) rfl rfl rfl rfl rfl (by kernel_rfl) ?_
    intro b3
    refine RL.appendA (nn := 4) (mm := 14) el_62 rfl rfl rfl rfl rfl rfl rfl ⟨(.leave (.take (Pick.none _))), rfl⟩ (Src.own (List.Mem.head _)) (ones_spec rfl) (by simp only [maxLen]; omega) (by omega) ?_
    intro ob1 cap1 ho1
    refine RL.p rfl (RL.nil (NQ.seq (CW.ok [0, 4] rfl ?_)))
    obtain ⟨q, rfl⟩ := Option.isSome_iff_exists.1 (ho1.resolve_left (by decide))
    refine CW.fact (p := 4 + 14 ≤ cap1) (fun w hC => own_cap (hC.s.h _ (List.Mem.head _))) (fun hcap => ?_)
    refine CW.region (ef := [2]) (bk := [2]) (RL.p rfl (RL.p rfl (RL.call (hw1 _ hsp q cap1 hcap) Tryz.call26 rfl rfl rfl rfl rfl (by repeat (first | exact Pick.nil | apply Pick.take | apply Pick.leave)) (Lend.ownE (ob := some q) (cap := cap1) (nn := 4 + 14) (List.Mem.head _) rfl (by rw [hf]; rfl) .nil) (.inr rfl) ?_)))
    rintro _ _ _ ⟨ob2, cap2, rfl, rfl, rfl, ho2⟩
    refine RL.nil ?_
    exact NQ.post (res0 rfl) (.keep (.keep (Split.none _))) ⟨ob2, cap2, rfl, rfl, rfl, ho2⟩
  · have haB : ¬ aidB s.kd = true := by rw [show aidB s.kd = false from ha]; decide
    have hsp : [nSource, itoT s.id, itoT s.kd, hexT s.rt] = srcP s := by rw [srcP, if_neg haB]
    refine CW.skip (NQ.seq (CW.region (ef := [2]) (bk := [2]) (RL.p rfl (RL.p rfl (RL.call (hw1 _ hsp b2 4 (by simp)) Tryz.call26 rfl rfl rfl rfl rfl (by repeat (first | exact Pick.nil | apply Pick.take | apply Pick.leave)) (Lend.ownE (ob := some b2) (cap := 4) (nn := 4) (List.Mem.head _) rfl rfl .nil) (.inr rfl) ?_)))))
    rintro _ _ _ ⟨ob2, cap2, rfl, rfl, rfl, ho2⟩
    refine RL.nil ?_
    exact NQ.post (res0 rfl) (.keep (.keep (Split.none _))) ⟨ob2, cap2, rfl, rfl, rfl, ho2⟩
end Go.Proofs.YthndhipjfdgdfaaGreatDoor

namespace Go.Proofs.YthndhipjfdgdfaaGreatDoor
open Go.PK
/-! ### A zone written -/
structure Zn.All (z : Zn) : Prop where
  fl : i64 z.fl
  rf : i64 z.rf
  L : ∀ p ∈ z.L, i64 p.1 ∧ i64 p.2
  n : z.L.length ≤ 100000
def ptW (L : List Pt) : List Tx := L.flatMap fun p => [itoT p.1, itoT p.2]
theorem ptW_len (L : List Pt) : (ptW L).length = 2 * L.length := by
  induction L with
  | nil => rfl
  | cons p r ih => simp only [ptW, List.flatMap_cons, List.length_append, List.length_cons, List.length_nil] at ih ⊢; omega
theorem ptW_step {L : List Pt} {i : Nat} {p : Pt} (h : L[i]? = some p) : ptW (L.take (i + 1)) = ptW (L.take i) ++ [itoT p.1, itoT p.2] := by
  rw [List.take_add_one, h, ptW, ptW, List.flatMap_append]
  simp
theorem zonP_le {z : Zn} (hz : z.All) : (∀ t ∈ zonP z, t.length ≤ 64) ∧ (zonP z).length ≤ 200004 := by
  have hn := hz.n
  constructor
  · intro t ht
    rw [zonP] at ht
    simp only [List.mem_cons, List.mem_flatMap] at ht
    rcases ht with rfl | rfl | rfl | rfl | ⟨p, hp, ht⟩
    · decide
    · split <;> decide
    · have := itoT_len hz.fl; omega
    · have := itoT_len hz.rf; omega
    · have hp := hz.L p hp
      have h1 := itoT_len hp.1
      have h2 := itoT_len hp.2
      rcases ht with rfl | rfl | ht
      · omega
      · omega
      · cases ht
  · have := ptW_len z.L
    rw [zonP]
    show (ptW z.L).length + 4 ≤ _
    omega
theorem zonP_flat {z : Zn} (hz : z.All) : (zonP z).flatten.length ≤ 14000000 ∧ (lnP (zonP z)).length ≤ 14000000 := by
  obtain ⟨h1, h2⟩ := zonP_le hz
  have h3 := flat_le h1
  have h4 := lnP_len h1
  omega
def kpT (k : Bool) : Tx := if k = true then nIn else nOut
theorem wrzon_any (b : Nat) (p : Option Addr) (hp : p = none ∨ p = me b) (ob : Option Nat) (cap n : Nat) (l : Tx) (z : Zn) (hz : z.All) (hn : n ≤ 500000000) (oz : Option Nat) (cz m : Nat) (hm : z.L.length = m) :
    Spc Tryz.prog 32 #[.pointer (me b), .agg (znC z.keep (slO oz m cz) z.fl z.rf).toArray] [gvI, sls (oz.map fun b => ⟨b, 0, none⟩) 2 m (z.L.flatMap Pt.cells)] (bdL 87 b p ob cap n l) (WrR b (n + (lnP (zonP z)).length) (l ++ lnP (zonP z))) := by
  subst hm
  obtain ⟨hf1, hf2⟩ := zonP_flat hz
  have hzn := hz.n
  have hw1 : ∀ xs : List Tx, xs = zonP z → ∀ (q cp k : Nat), xs.length = k → k ≤ cp → Spc Tryz.prog 26 #[.pointer (me b), .slice (some ⟨q, 0, none⟩) k cp] [sls (some ⟨q, 0, none⟩) 1 k (xs.map strV)] (bdL 87 b p ob cap n l) (WrR b (n + (lnP (zonP z)).length) (l ++ lnP (zonP z))) := by
    rintro xs rfl q cp k hk hc
    exact wline_any b p hp ob cap n l q cp k (zonP z) hk hc (by have := (zonP_le hz).2; omega) (by omega) (by omega)
  dsimp only [bdL] at hw1 ⊢
  have hLl : ∀ q ∈ z.L, (Pt.cells q).length = 2 := fun _ _ => rfl
  refine Spc.enter Tryz.func32 rfl rfl rfl (fun w0 hw0 => ?_)
  refine CW.seq (CW.region (ef := [0]) (bk := []) (RL.box rfl rfl rfl rfl rfl rfl ?_))
  intro b1
  refine RL.nil (NQ.seq (CW.seq (CW.freezeP (A := [cel b1 (znC z.keep (slO oz z.L.length cz) z.fl z.rf) 73]) (B := [cel b [.pointer p, slO ob n cap] 87, own ob cap 5 1 n (bytes l)]) (by repeat (first | exact Pick.nil | apply Pick.take | apply Pick.leave)) rfl ?_)))
  refine CW.genI (fun J hJ => ?_)
  have m1 : cel b1 (znC z.keep (slO oz z.L.length cz) z.fl z.rf) 73 ∈ J := hJ _ (by simp)
  have m2 : sls (oz.map fun b => ⟨b, 0, none⟩) 2 z.L.length (z.L.flatMap Pt.cells) ∈ J := hJ _ (by simp)
  have mG : gvI ∈ J := hJ _ (by simp)
  clear hJ
  have f0 : RdI J ⟨b1, 0 + 0, none⟩ (.bool z.keep) := ⟨fun _ => Rd.celI m1 rfl⟩
  have f1 : RdI J ⟨b1, 0 + 1, none⟩ (slO oz z.L.length cz) := ⟨fun _ => Rd.celI m1 rfl⟩
  have f2 : RdI J ⟨b1, 0 + 2, none⟩ (.int .i64 z.fl) := ⟨fun _ => Rd.celI m1 rfl⟩
  have f3 : RdI J ⟨b1, 0 + 3, none⟩ (.int .i64 z.rf) := ⟨fun _ => Rd.celI m1 rfl⟩
  refine CW.rg (RL.p rfl (RL.nil (NQ.seq (CW.seq (CW.seq (CW.rg (RL.fieldAddr fa_73_0 rfl rfl rfl rfl (RL.loadq Tryz.isAgg4 rfl rfl rfl rfl ?_))))))))
  refine RL.nil (NQ.seq ?_)
  refine CW.cutG (γ := Unit) (fun _ => True) (fun _ => [(0, .pointer (me b)), (3, .pointer (some ⟨b1, 0, none⟩)), (4, strV (kpT z.keep))]) (fun _ => J) (fun _ => [cel b [.pointer p, slO ob n cap] 87, own ob cap 5 1 n (bytes l)]) ?_ ?_
  · have hh := hf1
    refine CW.cond rfl (fun hk => ?_) (fun hk => ?_)
    · have hkk : strV (kpT z.keep) = strV nIn := by rw [kpT, if_pos hk]
      rw [hkk]
      refine CW.rg (RL.p rfl (RL.nil ?_))
      exact NQ.midG () trivial (.cons rfl (.cons rfl (.cons rfl .nil))) (fun w h => h)
    · have hkk : strV (kpT z.keep) = strV nOut := by rw [kpT, if_neg (by rw [hk]; decide)]
      rw [hkk]
      refine CW.skip ?_
      exact NQ.midG () trivial (.cons rfl (.cons rfl (.cons rfl .nil))) (fun w h => h)
  rintro - -
  obtain ⟨f, hf⟩ : ∃ f : Int → Tx, f = itoT := ⟨_, rfl⟩
  have gF : ∀ n, i64 n → Spc Tryz.prog 27 #[.int .i64 n] [gvI] [] (Is (strV (f n))) := fun n hn => by rw [hf]; exact gitoF_any n hn.1 hn.2
  refine CW.seq (CW.regionD (Sq.of [0, 1, 2, 3, 4, 5, 6, 7, 8]) [7] [] [0, 1, 2, 3, 4, 5, 6, 8] mixed (by kernel_rfl) ?_)
  refine RL.p rfl (RL.fieldAddr fa_73_2 rfl rfl rfl rfl (RL.loadTq Tryz.isAgg23 rfl rfl rfl rfl ?_))
  refine RL.callvT (gF z.fl hz.fl) Tryz.call27 rfl rfl rfl rfl (.inI mG .nil) (RL.fieldAddr fa_73_3 rfl rfl rfl rfl (RL.loadTq Tryz.isAgg23 rfl rfl rfl rfl ?_))
  refine RL.callvT (gF z.rf hz.rf) Tryz.call27 rfl rfl rfl rfl (.inI mG .nil) (RL.buildOwn [_, _, _, _] Tryz.runUnderlying62 Tryz.sizeOf9 Tryz.zeroValue9 rfl rfl (by decide) (by decide) rfl (by decide) rfl rfl rfl rfl rfl rfl ?_)
  intro b2
  refine RL.p rfl (RL.nil (NQ.seq (CW.ok [0, 3, 5] rfl (CW.seq (CW.seq (CW.rg (RL.fieldAddr fa_73_1 rfl rfl rfl rfl (RL.loadq Tryz.isAgg71 rfl rfl rfl rfl ?_))))))))
  refine RL.lenS Tryz.runUnderlying71 rfl rfl rfl rfl (RL.p rfl (RL.nil (NQ.seq (CW.block ?_))))
  refine CW.loop (γ := Nat × Option Nat × Nat) (fun g => g.1 ≤ z.L.length ∧ g.2.1.isSome = true) (fun g => [(0, .pointer (me b)), (5, slO g.2.1 (4 + 2 * g.1) g.2.2), (19, slO oz z.L.length cz), (20, .int .i64 (z.L.length : Int)), (21, .int .i64 (g.1 : Int))]) (fun _ => J)
    (fun g => [own g.2.1 g.2.2 9 1 (4 + 2 * g.1) (([nZone, kpT z.keep, f z.fl, f z.rf] ++ ptW (z.L.take g.1)).map strV), cel b [.pointer p, slO ob n cap] 87, own ob cap 5 1 n (bytes l)]) (fun g => z.L.length - g.1) (0, some b2, 4) ⟨Nat.zero_le _, rfl⟩ (.cons rfl (.cons rfl (.cons rfl (.cons rfl (.cons rfl .nil))))) (fun w h => h) ?_
  rintro ⟨i, oq, cq⟩ ⟨hi, hq⟩
  dsimp only at hi hq ⊢
  obtain ⟨q, rfl⟩ := Option.isSome_iff_exists.1 hq
  refine CW.fact (p := oz = none → z.L.length = 0) (fun w hC e => sls_nil (hC.s.i _ m2) (by rw [e]; rfl)) (fun hpa => ?_)
  refine CW.fact (p := 4 + 2 * i ≤ cq) (fun w hC => own_cap (hC.s.h _ (List.Mem.head _))) (fun hcap => ?_)
  refine CW.seq (CW.rg (RL.p rfl (RL.nil (NQ.seq (CW.seq ?_)))))
  refine CW.cond rfl (fun hlt => ?_) (fun hlt => ?_)
  ·
    have hlt' : i < z.L.length := by simp at hlt; omega
    cases oz with
    | none => exact absurd (hpa rfl) (by omega)
    | some bz =>
    have hx := List.getElem?_eq_getElem hlt'
    generalize z.L[i] = pt at hx
    have hpt := hz.L pt (List.mem_of_getElem? hx)
    have hst := ptW_step hx
    have fA : RdsN J ⟨bz, 0 + i * 2, none⟩ 2 pt.cells := flat_rdsN (f := Pt.cells) m2 hx hLl
    refine CW.skip (NQ.seq (CW.seq (CW.block (CW.seq (CW.region (ef := [2, 3]) (bk := [3]) (RL.idxAt (j := i) Tryz.runUnderlying71 Tryz.sizeOf80 rfl rfl rfl rfl rfl rfl (hlt') (RL.loadSq Tryz.isAgg80 Tryz.sizeOf80 rfl rfl rfl rfl ?_)))))))
    refine RL.alloc Tryz.zeroValue80 rfl rfl rfl rfl rfl ?_
    intro b3
    refine RL.store (vs := [_, _]) Tryz.sizeOf80 rfl rfl rfl rfl rfl rfl rfl rfl rfl (by repeat (first | exact Upd.here | apply Upd.there)) ?_
    refine RL.nil (NQ.seq (CW.freezeP (A := [cel b3 pt.cells 80]) (B := [own (some q) cq 9 1 (4 + 2 * i) (([nZone, kpT z.keep, f z.fl, f z.rf] ++ ptW (z.L.take i)).map strV), cel b [.pointer p, slO ob n cap] 87, own ob cap 5 1 n (bytes l)]) (by repeat (first | exact Pick.nil | apply Pick.take | apply Pick.leave)) rfl ?_))
    refine CW.genI (fun J2 hJ2 => ?_)
    have n1 : cel b3 pt.cells 80 ∈ J2 := hJ2 _ (by simp)
    have nG : gvI ∈ J2 := hJ2 _ (by simp [mG])
    have hJ3 : ∀ x ∈ J, x ∈ J2 := fun x hx => hJ2 _ (List.Mem.tail _ hx)
    clear hJ2
    have k0 : RdI J2 ⟨b3, 0 + 0 * 1, none⟩ (.int .i64 pt.1) := ⟨fun _ => Rd.celI n1 rfl⟩
    have k1 : RdI J2 ⟨b3, 0 + 1 * 1, none⟩ (.int .i64 pt.2) := ⟨fun _ => Rd.celI n1 rfl⟩
    refine CW.regionD (Sq.of [0, 1, 2, 3, 4, 5, 6, 7, 8, 9]) [7, 8] [8] [0, 1, 2, 3, 4, 5, 6, 9] mixed (by kernel_rfl) ?_
    refine RL.p rfl (RL.idxAAt (j := 0) Tryz.runUnderlying80 Tryz.sizeOf23 rfl rfl rfl rfl rfl rfl (by decide) ?_)
    refine RL.loadTq Tryz.isAgg23 rfl rfl rfl rfl ?_
    refine RL.callvT (gF pt.1 hpt.1) Tryz.call27 rfl rfl rfl rfl (.inI nG .nil) (RL.idxAAt (j := 1) Tryz.runUnderlying80 Tryz.sizeOf23 rfl rfl rfl rfl rfl rfl (by decide) ?_)
    refine RL.loadTq Tryz.isAgg23 rfl rfl rfl rfl ?_
    refine RL.callvT (gF pt.2 hpt.2) Tryz.call27 rfl rfl rfl rfl (.inI nG .nil) (RL.buildOwn [_, _] Tryz.runUnderlying62 Tryz.sizeOf9 Tryz.zeroValue9 rfl rfl (by decide) (by decide) rfl (by decide) rfl rfl rfl rfl rfl rfl ?_)
    intro b4
    refine RL.appendA (nn := 4 + 2 * i) (mm := 2) el_62 rfl rfl rfl rfl rfl rfl rfl ⟨(.leave (.take (Pick.none _))), rfl⟩ (Src.own (List.Mem.head _)) (ones_spec rfl) (by simp only [maxLen]; omega) (by omega) ?_
    intro ob1 cap1 ho1
    refine RL.p rfl (RL.nil (NQ.block (NQ.seq (CW.ok [0, 5, 19, 20, 21] rfl (CW.rg (RL.bx rfl (wrapV_i64 (by omega) (by omega)) ?_))))))
    refine RL.p rfl (RL.nil ?_)
    refine NQ.round (g := (i, some q, cq)) (i + 1, ob1, cap1) ⟨hlt', ho1.resolve_left (by omega)⟩ (by show z.L.length - (i + 1) < z.L.length - i; omega) (.cons rfl (.cons (k := 5) ?_ (.cons rfl (.cons rfl (.cons rfl .nil))))) (fun w h => ?_)
    · show some (slO ob1 (4 + 2 * i + 2) cap1) = some (slO ob1 (4 + 2 * (i + 1)) cap1)
      rw [show 4 + 2 * (i + 1) = 4 + 2 * i + 2 by omega]
    · dsimp only
      rw [hst, show 4 + 2 * (i + 1) = 4 + 2 * i + 2 by omega, ← List.append_assoc, List.map_append (l₂ := [itoT pt.1, itoT pt.2]), ← hf]
      exact h.rea hJ3 (by repeat (first | exact Rea.nil | (apply Rea.cons; (solve | (repeat (first | exact Del.here | apply Del.there))))))
  · have hin : i = z.L.length := by simp at hlt; omega
    subst hin
    have hzp : [nZone, kpT z.keep, f z.fl, f z.rf] ++ ptW (z.L.take z.L.length) = zonP z := by rw [hf, List.take_length]; rfl
    refine CW.exit (XQ.seq (XQ.seq (XQ.hit (NQ.seq (CW.region (ef := [2]) (bk := [2]) (RL.p rfl (RL.p rfl (RL.call (hw1 _ hzp q cq (4 + 2 * z.L.length) (by rw [List.take_length, List.length_append, ptW_len]; rfl) hcap) Tryz.call26 rfl rfl rfl rfl rfl (by repeat (first | exact Pick.nil | apply Pick.take | apply Pick.leave)) (Lend.ownE (ob := some q) (cap := cq) (nn := 4 + 2 * z.L.length) (List.Mem.head _) rfl rfl .nil) (.inr rfl) ?_))))))))
    rintro _ _ _ ⟨ob2, cap2, rfl, rfl, rfl, ho2⟩
    refine RL.nil ?_
    exact NQ.post (res0 rfl) (.keep (.keep (Split.none _))) ⟨ob2, cap2, rfl, rfl, rfl, ho2⟩
end Go.Proofs.YthndhipjfdgdfaaGreatDoor

namespace Go.Proofs.YthndhipjfdgdfaaGreatDoor
open Go.PK
/-! ### A plan printed -/
def Pl.nums (P : Pl) : List Int := [P.cf.g0, P.cf.g1, P.cf.g2, P.cf.dr, P.cf.sc.st, P.cf.sc.ln, P.cf.sc.lg, P.cf.sc.of, P.cf.mo, P.cf.ti, P.cf.gr, P.de, P.ra, P.mo, P.sz]
structure Pl.All (P : Pl) : Prop where
  n : ∀ v ∈ P.nums, i64 v
  sd : 0 ≤ P.cf.sd ∧ P.cf.sd < 18446744073709551616
  L : ∀ s ∈ P.cf.L, s.All
  z : ∀ z ∈ P.zs, z.All
  nl : P.cf.L.length ≤ 100
  nz : P.zs.length ≤ 20
theorem nine_le {P : Pl} (hP : P.All) (hc : P.cf.cm.length = 32) : ∀ ws ∈ nineP P, (∀ t ∈ ws, t.length ≤ 64) ∧ ws.length ≤ 5 := by
  have h := fun v hv => itoT_len (hP.n v hv)
  have hx := hexT_len P.cf.cm
  rw [hc] at hx
  have hd := decT_len20 (n := P.cf.sd.toNat) (by have := hP.sd; omega)
  intro ws hw
  simp only [nineP, List.mem_cons, List.not_mem_nil, or_false] at hw
  rcases hw with rfl | rfl | rfl | rfl | rfl | rfl | rfl | rfl | rfl <;> refine ⟨fun t ht => ?_, by simp⟩ <;> simp only [List.mem_cons, List.not_mem_nil, or_false] at ht
  · rcases ht with rfl | rfl | rfl | rfl
    · decide
    all_goals refine Nat.le_trans (h _ (by simp [Pl.nums])) (by decide)
  · rcases ht with rfl | rfl
    · decide
    all_goals refine Nat.le_trans (h _ (by simp [Pl.nums])) (by decide)
  · rcases ht with rfl | rfl | rfl | rfl | rfl
    · decide
    all_goals refine Nat.le_trans (h _ (by simp [Pl.nums])) (by decide)
  · rcases ht with rfl | rfl
    · decide
    · omega
  · rcases ht with rfl | rfl | rfl
    · decide
    all_goals refine Nat.le_trans (h _ (by simp [Pl.nums])) (by decide)
  · rcases ht with rfl | rfl
    · decide
    all_goals refine Nat.le_trans (h _ (by simp [Pl.nums])) (by decide)
  · rcases ht with rfl | rfl
    · decide
    · omega
  · rcases ht with rfl | rfl | rfl | rfl
    · decide
    all_goals refine Nat.le_trans (h _ (by simp [Pl.nums])) (by decide)
  · rcases ht with rfl | rfl
    · decide
    all_goals refine Nat.le_trans (h _ (by simp [Pl.nums])) (by decide)
def sL (L : List Sr) : Tx := (L.map srcP).flatMap lnP
def zL (L : List Zn) : Tx := (L.map zonP).flatMap lnP
theorem sL_step {L : List Sr} {i : Nat} {s : Sr} (h : L[i]? = some s) : sL (L.take (i + 1)) = sL (L.take i) ++ lnP (srcP s) := by
  rw [List.take_add_one, h, sL, sL, List.map_append, List.flatMap_append]; simp
theorem zL_step {L : List Zn} {i : Nat} {z : Zn} (h : L[i]? = some z) : zL (L.take (i + 1)) = zL (L.take i) ++ lnP (zonP z) := by
  rw [List.take_add_one, h, zL, zL, List.map_append, List.flatMap_append]; simp
theorem sL_len {L : List Sr} (h : ∀ s ∈ L, s.All) : (sL L).length ≤ 2000 * L.length := by
  induction L with
  | nil => exact Nat.le_refl _
  | cons s r ih =>
    have h1 := (srcP_flat (h s (List.mem_cons_self ..))).2
    have h2 := ih fun x hx => h x (List.mem_cons_of_mem _ hx)
    have e : sL (s :: r) = lnP (srcP s) ++ sL r := rfl
    rw [e, List.length_append, List.length_cons]; omega
theorem zL_len {L : List Zn} (h : ∀ z ∈ L, z.All) : (zL L).length ≤ 14000000 * L.length := by
  induction L with
  | nil => exact Nat.le_refl _
  | cons s r ih =>
    have h1 := (zonP_flat (h s (List.mem_cons_self ..))).2
    have h2 := ih fun x hx => h x (List.mem_cons_of_mem _ hx)
    have e : zL (s :: r) = lnP (zonP s) ++ zL r := rfl
    rw [e, List.length_append, List.length_cons]; omega
theorem prT_eq (P : Pl) : prT P = (nineP P).flatMap lnP ++ sL P.cf.L ++ zL P.zs := by
  rw [prT, plP, List.flatMap_append, List.flatMap_append]; rfl
def prV (P : Pl) : Value := if P.ok = true then .tuple #[strV (prT P), .int .i64 0] else .tuple #[strV [], .int .i64 310]
theorem RdI.up {J J2 : List It} {p : Addr} {v : Value} (hs : ∀ x ∈ J, x ∈ J2) (h : RdI J p v) : RdI J2 p v := ⟨fun H w hw => h.h H w (hw.les hs (Les.refl H))⟩
theorem cf_key {c : Cf} (h : c.cm.length = 32) (sl : Value) (j : Nat) (u : Value) (hu : (bytes c.cm)[j]? = some u) : (c.cells sl)[0 + 9 + j]? = some u := by
  rw [show 0 + 9 + j = j + 1 + 1 + 1 + 1 + 1 + 1 + 1 + 1 + 1 by omega]
  show (bytes c.cm ++ c.tl)[j]? = some u
  rw [List.getElem?_append_left (List.getElem?_eq_some_iff.1 hu).1]; exact hu
theorem gprint_any (P : Pl) (oa oz : Option Nat) (ca cz : Nat) (ZL : List ZO) (hP : P.Fit ZL) (hA : P.All) :
    Spc Tryz.prog 8 #[.agg (plC P (slO oa P.cf.L.length ca) (slO oz P.zs.length cz)).toArray] (gvI :: plI P oa oz ZL) [] (Is (prV P)) := by
  have hnz := hA.nz
  have hnl := hA.nl
  have hcm := hP.cf.cm
  have hpl := pl_len hP.cf.cm (slO oa P.cf.L.length ca) (slO oz P.zs.length cz)
  have hLl : ∀ s ∈ P.cf.L, s.cells.length = 48 := fun s hs => sr_len (hP.cf.L s hs).rt
  refine Spc.enter Tryz.func8 rfl rfl rfl (fun w0 hw0 => ?_)
  refine CW.seq (CW.region (ef := [0]) (bk := []) (RL.box rfl rfl rfl rfl rfl rfl ?_))
  intro b1
  refine RL.p rfl (RL.p rfl (RL.nil (NQ.seq (CW.seq (CW.seq (CW.freezeAll rfl ?_))))))
  refine CW.genI (fun J hJ => ?_)
  have hplI : ∀ x ∈ plI P oa oz ZL, x ∈ J := fun x hx => hJ x (List.Mem.tail _ (List.Mem.tail _ hx))
  have mG : gvI ∈ J := hJ _ (by simp)
  have m1 : cel b1 (plC P (slO oa P.cf.L.length ca) (slO oz P.zs.length cz)) 35 ∈ J := hJ _ (by simp)
  have m2 : sls (oa.map fun b => ⟨b, 0, none⟩) 48 P.cf.L.length (P.cf.L.flatMap Sr.cells) ∈ J := hJ _ (by simp)
  have m3 : sls (oz.map fun b => ⟨b, 0, none⟩) 4 P.zs.length (ZL.flatMap znO) ∈ J := hJ _ (by simp)
  have m4 : ∀ z ∈ ZL, znS z ∈ J := fun z hz => hJ _ (by repeat (first | exact List.mem_map_of_mem hz | apply List.mem_cons_of_mem))
  clear hJ
  have fC : RdsN J ⟨b1, 0 + 0, none⟩ 45 (P.cf.cells (slO oa P.cf.L.length ca)) := RdsN.told m1 (pl_cf hP.cf.cm _ _) (cf_len hP.cf.cm _)
  have fS : RdI J ⟨b1, 0 + 0 + 0, none⟩ (slO oa P.cf.L.length ca) := ⟨fun _ => Rd.celI m1 rfl⟩
  have fZ : RdI J ⟨b1, 0 + 45, none⟩ (slO oz P.zs.length cz) := ⟨fun _ => Rd.getI m1 (pl_tl hP.cf.cm _ _ 0)⟩
  have f6 : RdI J ⟨b1, 0 + 46, none⟩ (.int .i64 P.de) := ⟨fun _ => Rd.getI m1 (pl_tl hP.cf.cm _ _ 1)⟩
  have f7 : RdI J ⟨b1, 0 + 47, none⟩ (.int .i64 P.ra) := ⟨fun _ => Rd.getI m1 (pl_tl hP.cf.cm _ _ 2)⟩
  have f8 : RdI J ⟨b1, 0 + 48, none⟩ (.int .i64 P.mo) := ⟨fun _ => Rd.getI m1 (pl_tl hP.cf.cm _ _ 3)⟩
  have f9 : RdI J ⟨b1, 0 + 49, none⟩ (.int .i64 P.sz) := ⟨fun _ => Rd.getI m1 (pl_tl hP.cf.cm _ _ 4)⟩
  have fA : RdsN J ⟨b1, 0, none⟩ 50 (plC P (slO oa P.cf.L.length ca) (slO oz P.zs.length cz)) := RdsN.told m1 (fun j u hu => by rw [Nat.zero_add]; exact hu) hpl
  refine CW.rg (RL.loadSq Tryz.isAgg35 Tryz.sizeOf35 rfl rfl rfl rfl ?_)
  refine RL.callv (gcheck_any P oa oz ca cz ZL hP) Tryz.call10 rfl rfl rfl rfl (Lend.many hplI) (RL.p rfl (RL.nil (NQ.seq (CW.seq (CW.rg (RL.p rfl (RL.p rfl (RL.nil (NQ.seq ?_)))))))))
  refine CW.cond rfl (fun he => ?_) (fun he => ?_)
  · have he' : ¬ P.ok = true := fun h => by rw [Pl.err, if_pos h] at he; simp at he
    refine CW.seq (CW.rg (RL.p rfl (RL.p rfl (RL.p rfl (RL.nil (NQ.seq (CW.ok [1, 2, 3] rfl (CW.ret (RQ.seq ?_)))))))))
    exact RQ.post (res2 rfl rfl rfl) (Split.none _) ⟨by rw [prV, if_neg he', Pl.err, if_neg he']; rfl, rfl, rfl⟩
  · have he' : P.ok = true := by
      cases h : P.ok with
      | true => rfl
      | false => rw [Pl.err, h] at he; simp at he
    have hcl := cf_len hcm (slO oa P.cf.L.length ca)
    refine CW.skip (NQ.seq (CW.ok [1] rfl (CW.seq (CW.region (ef := [2, 3]) (bk := [3]) (RL.fieldAddr fa_35_0 rfl rfl rfl rfl (RL.loadSq Tryz.isAgg32 Tryz.sizeOf32 rfl rfl rfl rfl ?_))))))
    refine RL.alloc Tryz.zeroValue32 rfl rfl rfl rfl rfl ?_
    intro b2
    refine RL.storeW Tryz.sizeOf32 rfl rfl rfl rfl rfl rfl rfl (cf_ones _ rfl) (by repeat (first | exact Upd.here | apply Upd.there)) hcl rfl ?_
    refine RL.nil (NQ.seq (CW.seq (CW.region (ef := [1]) (bk := []) (RL.buildS _ Tryz.zeroValue87 pl_87 rfl rfl rfl rfl rfl (RL.box rfl rfl rfl rfl rfl rfl ?_)))))
    intro b3
    refine RL.p rfl (RL.nil (NQ.seq (CW.seq (CW.freezeP (A := [cel b2 (P.cf.cells (slO oa P.cf.L.length ca)) 32]) (B := [cel b3 [.pointer none, .slice none 0 0] 87]) (by repeat (first | exact Pick.nil | apply Pick.take | apply Pick.leave)) rfl ?_))))
    refine CW.genI (fun J2 hJ2 => ?_)
    have k1 : cel b2 (P.cf.cells (slO oa P.cf.L.length ca)) 32 ∈ J2 := hJ2 _ (List.Mem.head _)
    have hs : ∀ x ∈ J, x ∈ J2 := fun x hx => hJ2 _ (List.Mem.tail _ hx)
    clear hJ2
    have nG := hs _ mG
    have k2 := hs _ m2
    have k3 := hs _ m3
    have k4 : ∀ z ∈ ZL, znS z ∈ J2 := fun z hz => hs _ (m4 z hz)
    have fZ := RdI.up hs fZ
    have f6 := RdI.up hs f6
    have f7 := RdI.up hs f7
    have f8 := RdI.up hs f8
    have f9 := RdI.up hs f9
    have hsd : (P.cf.sd.toNat : Int) = P.cf.sd := by have := hA.sd; omega
    have hsu : P.cf.sd.toNat < 18446744073709551616 := by have := hA.sd; omega
    have c0 : RdI J2 ⟨b2, 0 + 1 + 0 * 1, none⟩ (.int .i64 P.cf.g0) := ⟨fun _ => Rd.celI k1 rfl⟩
    have c1 : RdI J2 ⟨b2, 0 + 1 + 1 * 1, none⟩ (.int .i64 P.cf.g1) := ⟨fun _ => Rd.celI k1 rfl⟩
    have c2 : RdI J2 ⟨b2, 0 + 1 + 2 * 1, none⟩ (.int .i64 P.cf.g2) := ⟨fun _ => Rd.celI k1 rfl⟩
    have c3 : RdI J2 ⟨b2, 0 + 4, none⟩ (.int .i64 P.cf.dr) := ⟨fun _ => Rd.celI k1 rfl⟩
    have c4 : RdI J2 ⟨b2, 0 + 5 + 0, none⟩ (.int .i64 P.cf.sc.st) := ⟨fun _ => Rd.celI k1 rfl⟩
    have c5 : RdI J2 ⟨b2, 0 + 5 + 1, none⟩ (.int .i64 P.cf.sc.ln) := ⟨fun _ => Rd.celI k1 rfl⟩
    have c6 : RdI J2 ⟨b2, 0 + 5 + 2, none⟩ (.int .i64 P.cf.sc.lg) := ⟨fun _ => Rd.celI k1 rfl⟩
    have c7 : RdI J2 ⟨b2, 0 + 5 + 3, none⟩ (.int .i64 P.cf.sc.of) := ⟨fun _ => Rd.celI k1 rfl⟩
    have c8 : RdI J2 ⟨b2, 0 + 41, none⟩ (.int .i64 P.cf.mo) := ⟨fun _ => Rd.getI k1 (cf_t hcm _ 0)⟩
    have c9 : RdI J2 ⟨b2, 0 + 42, none⟩ (.int .i64 P.cf.ti) := ⟨fun _ => Rd.getI k1 (cf_t hcm _ 1)⟩
    have c10 : RdI J2 ⟨b2, 0 + 43, none⟩ (.int .i64 P.cf.gr) := ⟨fun _ => Rd.getI k1 (cf_t hcm _ 2)⟩
    have c11 : RdI J2 ⟨b2, 0 + 44, none⟩ (.int .u64 (P.cf.sd.toNat : Int)) := ⟨fun _ => by rw [hsd]; exact Rd.getI k1 (cf_t hcm _ 3)⟩
    have c12 : RdI J2 ⟨b2, 0 + 0, none⟩ (slO oa P.cf.L.length ca) := ⟨fun _ => Rd.celI k1 rfl⟩
    have cK : RdsN J2 ⟨b2, 0 + 9, none⟩ 32 (bytes P.cf.cm) := RdsN.told k1 (cf_key hcm _) (by rw [List.length_map, hcm])
    have h := hA.n
    obtain ⟨f, hf⟩ : ∃ f : Int → Tx, f = itoT := ⟨_, rfl⟩
    have gI : ∀ n, i64 n → Spc Tryz.prog 28 #[.int .i64 n] [gvI] [] (Is (strV (f n))) := fun n hn => by rw [hf]; exact gito_any n hn.1 hn.2
    have gF : ∀ n, i64 n → Spc Tryz.prog 27 #[.int .i64 n] [gvI] [] (Is (strV (f n))) := fun n hn => by rw [hf]; exact gitoF_any n hn.1 hn.2
    have wl : ∀ (ob : Option Nat) (cap n : Nat) (l : Tx) (p : Option Addr), (p = none ∨ p = me b3) → n ≤ 10000 → ∀ ws ∈ nineP P, ∀ (q cp m : Nat), ws.length = m → m ≤ cp → Spc Tryz.prog 26 #[.pointer (me b3), .slice (some ⟨q, 0, none⟩) m cp] [sls (some ⟨q, 0, none⟩) 1 m (ws.map strV)] [cel b3 [.pointer p, slO ob n cap] 87, own ob cap 5 1 n (bytes l)] (WrR b3 (n + (lnP ws).length) (l ++ lnP ws)) ∧ (lnP ws).length ≤ 400 := by
      intro ob cap n l p hp hn ws hw q cp m hm hc
      obtain ⟨a1, a2⟩ := nine_le hA hcm ws hw
      have a3 := flat_le a1
      have a4 := lnP_len a1
      exact ⟨wline_any b3 p hp ob cap n l q cp m ws hm hc (by omega) (by omega) (by omega), by omega⟩
    obtain ⟨l0, hl0⟩ : ∃ l : Tx, l = [] := ⟨_, rfl⟩
    obtain ⟨n0, hN0⟩ : ∃ n : Nat, n = 0 := ⟨_, rfl⟩
    obtain ⟨ob0, hob0⟩ : ∃ o : Option Nat, o = none := ⟨_, rfl⟩
    obtain ⟨cap0, hcap0⟩ : ∃ n : Nat, n = 0 := ⟨_, rfl⟩
    have hn0 : n0 ≤ 0 := by omega
    have hln0 : l0.length = n0 := by rw [hl0, hN0]; rfl
    refine CW.conv (I' := J2) (H' := [cel b3 [.pointer none, slO ob0 n0 cap0] 87, own ob0 cap0 5 1 n0 (bytes l0)]) (fun w h => by
      subst hl0; subst hN0; subst hob0; subst hcap0
      exact (Cls.ownNone (e := 5) (sz := 1) h).rea (fun _ h => h) (by repeat (first | exact Rea.nil | (apply Rea.cons; (solve | (repeat (first | exact Del.here | apply Del.there))))))) ?_
    clear hob0 hcap0 hN0
    refine CW.regionD (Sq.of [0, 1, 2, 3, 4, 5, 6, 7, 8, 9, 10, 11, 12, 13, 14]) [13, 14] [14] [0, 1, 2, 3, 4, 5, 6, 7, 8, 9, 10, 11, 12] mixed (by kernel_rfl) ?_
    refine RL.p rfl (RL.fieldAddr fa_32_1 rfl rfl rfl rfl (RL.idxAAt (j := 0) Tryz.runUnderlying25 Tryz.sizeOf23 rfl rfl rfl rfl rfl rfl (by decide) ?_))
    refine RL.loadTq Tryz.isAgg23 rfl rfl rfl rfl ?_
    refine RL.callvT (gF P.cf.g0 (h _ (by simp [Pl.nums]))) Tryz.call27 rfl rfl rfl rfl (.inI nG .nil) ?_
    refine RL.fieldAddr fa_32_1 rfl rfl rfl rfl (RL.idxAAt (j := 1) Tryz.runUnderlying25 Tryz.sizeOf23 rfl rfl rfl rfl rfl rfl (by decide) ?_)
    refine RL.loadTq Tryz.isAgg23 rfl rfl rfl rfl ?_
    refine RL.callvT (gF P.cf.g1 (h _ (by simp [Pl.nums]))) Tryz.call27 rfl rfl rfl rfl (.inI nG .nil) ?_
    refine RL.fieldAddr fa_32_1 rfl rfl rfl rfl (RL.idxAAt (j := 2) Tryz.runUnderlying25 Tryz.sizeOf23 rfl rfl rfl rfl rfl rfl (by decide) ?_)
    refine RL.loadTq Tryz.isAgg23 rfl rfl rfl rfl ?_
    refine RL.callvT (gF P.cf.g2 (h _ (by simp [Pl.nums]))) Tryz.call27 rfl rfl rfl rfl (.inI nG .nil) ?_
    refine RL.buildOwn [_, _, _, _] Tryz.runUnderlying62 Tryz.sizeOf9 Tryz.zeroValue9 rfl rfl (by decide) (by decide) rfl (by decide) rfl rfl rfl rfl rfl rfl ?_
    intro b4
    refine RL.call ((wl ob0 cap0 n0 l0 none (.inl rfl) (by omega) [nGravity, f P.cf.g0, f P.cf.g1, f P.cf.g2] (by simp [nineP, hf]) b4 4 4 rfl (by decide)).1) Tryz.call26 rfl rfl rfl rfl rfl (by repeat (first | exact Pick.nil | apply Pick.take | apply Pick.leave)) (Lend.ownE (ob := some b4) (cap := 4) (nn := 4) (List.Mem.head _) rfl rfl .nil) (.inr rfl) ?_
    rintro _ _ _ ⟨ob1, cap1, rfl, rfl, rfl, ho1⟩
    dsimp only [bdL]
    have hb1 := (wl ob0 cap0 n0 l0 none (.inl rfl) (by omega) [nGravity, f P.cf.g0, f P.cf.g1, f P.cf.g2] (by simp [nineP, hf]) 0 5 _ rfl (by simp)).2
    obtain ⟨l1, hl1⟩ : ∃ l', l' = l0 ++ lnP [nGravity, f P.cf.g0, f P.cf.g1, f P.cf.g2] := ⟨_, rfl⟩
    obtain ⟨n1, hN1⟩ : ∃ n', n' = n0 + (lnP [nGravity, f P.cf.g0, f P.cf.g1, f P.cf.g2]).length := ⟨_, rfl⟩
    rw [← hl1, ← hN1]
    have hn1 : n1 ≤ 500 := by omega
    have hln1 : l1.length = n1 := by rw [hl1, hN1, List.length_append, hln0]
    clear hN1 hb1
    refine RL.nil (NQ.seq (CW.ok [1, 5, 6] rfl (CW.seq (CW.region (ef := [4, 5]) (bk := [5]) (RL.p rfl (RL.fieldAddr fa_32_2 rfl rfl rfl rfl (RL.loadq Tryz.isAgg23 rfl rfl rfl rfl ?_)))))))
    refine RL.callv (gF P.cf.dr (h _ (by simp [Pl.nums]))) Tryz.call27 rfl rfl rfl rfl (.inI nG .nil) ?_
    refine RL.buildOwn [_, _] Tryz.runUnderlying62 Tryz.sizeOf9 Tryz.zeroValue9 rfl rfl (by decide) (by decide) rfl (by decide) rfl rfl rfl rfl rfl rfl ?_
    intro b5
    refine RL.call ((wl ob1 cap1 n1 l1 (me b3) (.inr rfl) (by omega) [nDrift, f P.cf.dr] (by simp [nineP, hf]) b5 2 2 rfl (by decide)).1) Tryz.call26 rfl rfl rfl rfl rfl (by repeat (first | exact Pick.nil | apply Pick.take | apply Pick.leave)) (Lend.ownE (ob := some b5) (cap := 2) (nn := 2) (List.Mem.head _) rfl rfl .nil) (.inr rfl) ?_
    rintro _ _ _ ⟨ob2, cap2, rfl, rfl, rfl, ho2⟩
    dsimp only [bdL]
    have hb2 := (wl ob1 cap1 n1 l1 (me b3) (.inr rfl) (by omega) [nDrift, f P.cf.dr] (by simp [nineP, hf]) 0 5 _ rfl (by simp)).2
    obtain ⟨l2, hl2⟩ : ∃ l', l' = l1 ++ lnP [nDrift, f P.cf.dr] := ⟨_, rfl⟩
    obtain ⟨n2, hN2⟩ : ∃ n', n' = n1 + (lnP [nDrift, f P.cf.dr]).length := ⟨_, rfl⟩
    rw [← hl2, ← hN2]
    have hn2 : n2 ≤ 1000 := by omega
    have hln2 : l2.length = n2 := by rw [hl2, hN2, List.length_append, hln1]
    clear hN2 hb2
    refine RL.nil (NQ.seq (CW.ok [1, 5, 6] rfl (CW.seq (CW.regionD (Sq.of [0, 1, 2, 3, 4, 5, 6, 7, 8, 9, 10, 11, 12, 13, 14, 15, 16, 17, 18]) [17, 18] [18] [0, 1, 2, 3, 4, 5, 6, 7, 8, 9, 10, 11, 12, 13, 14, 15, 16] mixed (by kernel_rfl) ?_))))
    refine RL.p rfl (RL.fieldAddr fa_32_3 rfl rfl rfl rfl (RL.fieldAddr fa_27_0 rfl rfl rfl rfl (RL.loadTq Tryz.isAgg3 rfl rfl rfl rfl ?_)))
    refine RL.callvT (gI P.cf.sc.st (h _ (by simp [Pl.nums]))) Tryz.call28 rfl rfl rfl rfl (.inI nG .nil) ?_
    refine RL.fieldAddr fa_32_3 rfl rfl rfl rfl (RL.fieldAddr fa_27_1 rfl rfl rfl rfl (RL.loadTq Tryz.isAgg3 rfl rfl rfl rfl ?_))
    refine RL.callvT (gI P.cf.sc.ln (h _ (by simp [Pl.nums]))) Tryz.call28 rfl rfl rfl rfl (.inI nG .nil) ?_
    refine RL.fieldAddr fa_32_3 rfl rfl rfl rfl (RL.fieldAddr fa_27_2 rfl rfl rfl rfl (RL.loadTq Tryz.isAgg3 rfl rfl rfl rfl ?_))
    refine RL.callvT (gI P.cf.sc.lg (h _ (by simp [Pl.nums]))) Tryz.call28 rfl rfl rfl rfl (.inI nG .nil) ?_
    refine RL.fieldAddr fa_32_3 rfl rfl rfl rfl (RL.fieldAddr fa_27_3 rfl rfl rfl rfl (RL.loadTq Tryz.isAgg3 rfl rfl rfl rfl ?_))
    refine RL.callvT (gI P.cf.sc.of (h _ (by simp [Pl.nums]))) Tryz.call28 rfl rfl rfl rfl (.inI nG .nil) ?_
    refine RL.buildOwn [_, _, _, _, _] Tryz.runUnderlying62 Tryz.sizeOf9 Tryz.zeroValue9 rfl rfl (by decide) (by decide) rfl (by decide) rfl rfl rfl rfl rfl rfl ?_
    intro b6
    refine RL.call ((wl ob2 cap2 n2 l2 (me b3) (.inr rfl) (by omega) [nSlot, f P.cf.sc.st, f P.cf.sc.ln, f P.cf.sc.lg, f P.cf.sc.of] (by simp [nineP, hf]) b6 5 5 rfl (by decide)).1) Tryz.call26 rfl rfl rfl rfl rfl (by repeat (first | exact Pick.nil | apply Pick.take | apply Pick.leave)) (Lend.ownE (ob := some b6) (cap := 5) (nn := 5) (List.Mem.head _) rfl rfl .nil) (.inr rfl) ?_
    rintro _ _ _ ⟨ob3, cap3, rfl, rfl, rfl, ho3⟩
    dsimp only [bdL]
    have hb3 := (wl ob2 cap2 n2 l2 (me b3) (.inr rfl) (by omega) [nSlot, f P.cf.sc.st, f P.cf.sc.ln, f P.cf.sc.lg, f P.cf.sc.of] (by simp [nineP, hf]) 0 5 _ rfl (by simp)).2
    obtain ⟨l3, hl3⟩ : ∃ l', l' = l2 ++ lnP [nSlot, f P.cf.sc.st, f P.cf.sc.ln, f P.cf.sc.lg, f P.cf.sc.of] := ⟨_, rfl⟩
    obtain ⟨n3, hN3⟩ : ∃ n', n' = n2 + (lnP [nSlot, f P.cf.sc.st, f P.cf.sc.ln, f P.cf.sc.lg, f P.cf.sc.of]).length := ⟨_, rfl⟩
    rw [← hl3, ← hN3]
    have hn3 : n3 ≤ 1500 := by omega
    have hln3 : l3.length = n3 := by rw [hl3, hN3, List.length_append, hln2]
    clear hN3 hb3
    refine RL.nil (NQ.seq (CW.ok [1, 5, 6] rfl (CW.seq (CW.region (ef := [4, 5]) (bk := [5]) (RL.p rfl (RL.fieldAddr fa_32_4 rfl rfl rfl rfl (RL.loadSq Tryz.isAgg29 Tryz.sizeOf29 rfl rfl rfl rfl ?_)))))))
    refine RL.callv (ghex_any P.cf.cm hcm) Tryz.call29 rfl rfl rfl rfl .nil (RL.buildOwn [_, _] Tryz.runUnderlying62 Tryz.sizeOf9 Tryz.zeroValue9 rfl rfl (by decide) (by decide) rfl (by decide) rfl rfl rfl rfl rfl rfl ?_)
    intro b7
    refine RL.call ((wl ob3 cap3 n3 l3 (me b3) (.inr rfl) (by omega) [nCommit, hexT P.cf.cm] (by simp [nineP, hf]) b7 2 2 rfl (by decide)).1) Tryz.call26 rfl rfl rfl rfl rfl (by repeat (first | exact Pick.nil | apply Pick.take | apply Pick.leave)) (Lend.ownE (ob := some b7) (cap := 2) (nn := 2) (List.Mem.head _) rfl rfl .nil) (.inr rfl) ?_
    rintro _ _ _ ⟨ob4, cap4, rfl, rfl, rfl, ho4⟩
    dsimp only [bdL]
    have hb4 := (wl ob3 cap3 n3 l3 (me b3) (.inr rfl) (by omega) [nCommit, hexT P.cf.cm] (by simp [nineP, hf]) 0 5 _ rfl (by simp)).2
    obtain ⟨l4, hl4⟩ : ∃ l', l' = l3 ++ lnP [nCommit, hexT P.cf.cm] := ⟨_, rfl⟩
    obtain ⟨n4, hN4⟩ : ∃ n', n' = n3 + (lnP [nCommit, hexT P.cf.cm]).length := ⟨_, rfl⟩
    rw [← hl4, ← hN4]
    have hn4 : n4 ≤ 2000 := by omega
    have hln4 : l4.length = n4 := by rw [hl4, hN4, List.length_append, hln3]
    clear hN4 hb4
    refine RL.nil (NQ.seq (CW.ok [1, 5, 6] rfl (CW.seq (CW.regionD (Sq.of [0, 1, 2, 3, 4, 5, 6, 7, 8]) [7, 8] [8] [0, 1, 2, 3, 4, 5, 6] mixed (by kernel_rfl) ?_))))
    refine RL.p rfl (RL.fieldAddr fa_32_5 rfl rfl rfl rfl (RL.loadTq Tryz.isAgg3 rfl rfl rfl rfl ?_))
    refine RL.callvT (gI P.cf.mo (h _ (by simp [Pl.nums]))) Tryz.call28 rfl rfl rfl rfl (.inI nG .nil) ?_
    refine RL.fieldAddr fa_32_6 rfl rfl rfl rfl (RL.loadTq Tryz.isAgg3 rfl rfl rfl rfl ?_)
    refine RL.callvT (gI P.cf.ti (h _ (by simp [Pl.nums]))) Tryz.call28 rfl rfl rfl rfl (.inI nG .nil) ?_
    refine RL.buildOwn [_, _, _] Tryz.runUnderlying62 Tryz.sizeOf9 Tryz.zeroValue9 rfl rfl (by decide) (by decide) rfl (by decide) rfl rfl rfl rfl rfl rfl ?_
    intro b8
    refine RL.call ((wl ob4 cap4 n4 l4 (me b3) (.inr rfl) (by omega) [nLock, f P.cf.mo, f P.cf.ti] (by simp [nineP, hf]) b8 3 3 rfl (by decide)).1) Tryz.call26 rfl rfl rfl rfl rfl (by repeat (first | exact Pick.nil | apply Pick.take | apply Pick.leave)) (Lend.ownE (ob := some b8) (cap := 3) (nn := 3) (List.Mem.head _) rfl rfl .nil) (.inr rfl) ?_
    rintro _ _ _ ⟨ob5, cap5, rfl, rfl, rfl, ho5⟩
    dsimp only [bdL]
    have hb5 := (wl ob4 cap4 n4 l4 (me b3) (.inr rfl) (by omega) [nLock, f P.cf.mo, f P.cf.ti] (by simp [nineP, hf]) 0 5 _ rfl (by simp)).2
    obtain ⟨l5, hl5⟩ : ∃ l', l' = l4 ++ lnP [nLock, f P.cf.mo, f P.cf.ti] := ⟨_, rfl⟩
    obtain ⟨n5, hN5⟩ : ∃ n', n' = n4 + (lnP [nLock, f P.cf.mo, f P.cf.ti]).length := ⟨_, rfl⟩
    rw [← hl5, ← hN5]
    have hn5 : n5 ≤ 2500 := by omega
    have hln5 : l5.length = n5 := by rw [hl5, hN5, List.length_append, hln4]
    clear hN5 hb5
    refine RL.nil (NQ.seq (CW.ok [1, 5, 6] rfl (CW.seq (CW.region (ef := [4, 5]) (bk := [5]) (RL.p rfl (RL.fieldAddr fa_32_7 rfl rfl rfl rfl (RL.loadq Tryz.isAgg3 rfl rfl rfl rfl ?_)))))))
    refine RL.callv (gI P.cf.gr (h _ (by simp [Pl.nums]))) Tryz.call28 rfl rfl rfl rfl (.inI nG .nil) ?_
    refine RL.buildOwn [_, _] Tryz.runUnderlying62 Tryz.sizeOf9 Tryz.zeroValue9 rfl rfl (by decide) (by decide) rfl (by decide) rfl rfl rfl rfl rfl rfl ?_
    intro b9
    refine RL.call ((wl ob5 cap5 n5 l5 (me b3) (.inr rfl) (by omega) [nGrace, f P.cf.gr] (by simp [nineP, hf]) b9 2 2 rfl (by decide)).1) Tryz.call26 rfl rfl rfl rfl rfl (by repeat (first | exact Pick.nil | apply Pick.take | apply Pick.leave)) (Lend.ownE (ob := some b9) (cap := 2) (nn := 2) (List.Mem.head _) rfl rfl .nil) (.inr rfl) ?_
    rintro _ _ _ ⟨ob6, cap6, rfl, rfl, rfl, ho6⟩
    dsimp only [bdL]
    have hb6 := (wl ob5 cap5 n5 l5 (me b3) (.inr rfl) (by omega) [nGrace, f P.cf.gr] (by simp [nineP, hf]) 0 5 _ rfl (by simp)).2
    obtain ⟨l6, hl6⟩ : ∃ l', l' = l5 ++ lnP [nGrace, f P.cf.gr] := ⟨_, rfl⟩
    obtain ⟨n6, hN6⟩ : ∃ n', n' = n5 + (lnP [nGrace, f P.cf.gr]).length := ⟨_, rfl⟩
    rw [← hl6, ← hN6]
    have hn6 : n6 ≤ 3000 := by omega
    have hln6 : l6.length = n6 := by rw [hl6, hN6, List.length_append, hln5]
    clear hN6 hb6
    refine RL.nil (NQ.seq (CW.ok [1, 5, 6] rfl (CW.seq (CW.region (ef := [4, 5]) (bk := [5]) (RL.p rfl (RL.fieldAddr fa_32_8 rfl rfl rfl rfl (RL.loadq Tryz.isAgg30 rfl rfl rfl rfl ?_)))))))
    refine RL.callv (fmtu_any P.cf.sd.toNat hsu) Tryz.call30 rfl rfl rfl rfl (.inI nG .nil) (RL.buildOwn [_, _] Tryz.runUnderlying62 Tryz.sizeOf9 Tryz.zeroValue9 rfl rfl (by decide) (by decide) rfl (by decide) rfl rfl rfl rfl rfl rfl ?_)
    intro b10
    refine RL.call ((wl ob6 cap6 n6 l6 (me b3) (.inr rfl) (by omega) [nStride, decT P.cf.sd.toNat] (by simp [nineP, hf]) b10 2 2 rfl (by decide)).1) Tryz.call26 rfl rfl rfl rfl rfl (by repeat (first | exact Pick.nil | apply Pick.take | apply Pick.leave)) (Lend.ownE (ob := some b10) (cap := 2) (nn := 2) (List.Mem.head _) rfl rfl .nil) (.inr rfl) ?_
    rintro _ _ _ ⟨ob7, cap7, rfl, rfl, rfl, ho7⟩
    dsimp only [bdL]
    have hb7 := (wl ob6 cap6 n6 l6 (me b3) (.inr rfl) (by omega) [nStride, decT P.cf.sd.toNat] (by simp [nineP, hf]) 0 5 _ rfl (by simp)).2
    obtain ⟨l7, hl7⟩ : ∃ l', l' = l6 ++ lnP [nStride, decT P.cf.sd.toNat] := ⟨_, rfl⟩
    obtain ⟨n7, hN7⟩ : ∃ n', n' = n6 + (lnP [nStride, decT P.cf.sd.toNat]).length := ⟨_, rfl⟩
    rw [← hl7, ← hN7]
    have hn7 : n7 ≤ 3500 := by omega
    have hln7 : l7.length = n7 := by rw [hl7, hN7, List.length_append, hln6]
    clear hN7 hb7
    refine RL.nil (NQ.seq (CW.ok [1, 5, 6] rfl (CW.seq (CW.regionD (Sq.of [0, 1, 2, 3, 4, 5, 6, 7, 8, 9, 10, 11]) [10, 11] [11] [0, 1, 2, 3, 4, 5, 6, 7, 8, 9] mixed (by kernel_rfl) ?_))))
    refine RL.p rfl (RL.fieldAddr fa_35_2 rfl rfl rfl rfl (RL.loadTq Tryz.isAgg3 rfl rfl rfl rfl ?_))
    refine RL.callvT (gI P.de (h _ (by simp [Pl.nums]))) Tryz.call28 rfl rfl rfl rfl (.inI nG .nil) ?_
    refine RL.fieldAddr fa_35_3 rfl rfl rfl rfl (RL.loadTq Tryz.isAgg3 rfl rfl rfl rfl ?_)
    refine RL.callvT (gI P.ra (h _ (by simp [Pl.nums]))) Tryz.call28 rfl rfl rfl rfl (.inI nG .nil) ?_
    refine RL.fieldAddr fa_35_4 rfl rfl rfl rfl (RL.loadTq Tryz.isAgg3 rfl rfl rfl rfl ?_)
    refine RL.callvT (gI P.mo (h _ (by simp [Pl.nums]))) Tryz.call28 rfl rfl rfl rfl (.inI nG .nil) ?_
    refine RL.buildOwn [_, _, _, _] Tryz.runUnderlying62 Tryz.sizeOf9 Tryz.zeroValue9 rfl rfl (by decide) (by decide) rfl (by decide) rfl rfl rfl rfl rfl rfl ?_
    intro b11
    refine RL.call ((wl ob7 cap7 n7 l7 (me b3) (.inr rfl) (by omega) [nClock, f P.de, f P.ra, f P.mo] (by simp [nineP, hf]) b11 4 4 rfl (by decide)).1) Tryz.call26 rfl rfl rfl rfl rfl (by repeat (first | exact Pick.nil | apply Pick.take | apply Pick.leave)) (Lend.ownE (ob := some b11) (cap := 4) (nn := 4) (List.Mem.head _) rfl rfl .nil) (.inr rfl) ?_
    rintro _ _ _ ⟨ob8, cap8, rfl, rfl, rfl, ho8⟩
    dsimp only [bdL]
    have hb8 := (wl ob7 cap7 n7 l7 (me b3) (.inr rfl) (by omega) [nClock, f P.de, f P.ra, f P.mo] (by simp [nineP, hf]) 0 5 _ rfl (by simp)).2
    obtain ⟨l8, hl8⟩ : ∃ l', l' = l7 ++ lnP [nClock, f P.de, f P.ra, f P.mo] := ⟨_, rfl⟩
    obtain ⟨n8, hN8⟩ : ∃ n', n' = n7 + (lnP [nClock, f P.de, f P.ra, f P.mo]).length := ⟨_, rfl⟩
    rw [← hl8, ← hN8]
    have hn8 : n8 ≤ 4000 := by omega
    have hln8 : l8.length = n8 := by rw [hl8, hN8, List.length_append, hln7]
    clear hN8 hb8
    refine RL.nil (NQ.seq (CW.ok [1, 5, 6] rfl (CW.seq (CW.region (ef := [4, 5]) (bk := [5]) (RL.p rfl (RL.fieldAddr fa_35_5 rfl rfl rfl rfl (RL.loadq Tryz.isAgg3 rfl rfl rfl rfl ?_)))))))
    refine RL.callv (gI P.sz (h _ (by simp [Pl.nums]))) Tryz.call28 rfl rfl rfl rfl (.inI nG .nil) ?_
    refine RL.buildOwn [_, _] Tryz.runUnderlying62 Tryz.sizeOf9 Tryz.zeroValue9 rfl rfl (by decide) (by decide) rfl (by decide) rfl rfl rfl rfl rfl rfl ?_
    intro b12
    refine RL.call ((wl ob8 cap8 n8 l8 (me b3) (.inr rfl) (by omega) [nTrace, f P.sz] (by simp [nineP, hf]) b12 2 2 rfl (by decide)).1) Tryz.call26 rfl rfl rfl rfl rfl (by repeat (first | exact Pick.nil | apply Pick.take | apply Pick.leave)) (Lend.ownE (ob := some b12) (cap := 2) (nn := 2) (List.Mem.head _) rfl rfl .nil) (.inr rfl) ?_
    rintro _ _ _ ⟨ob9, cap9, rfl, rfl, rfl, ho9⟩
    dsimp only [bdL]
    have hb9 := (wl ob8 cap8 n8 l8 (me b3) (.inr rfl) (by omega) [nTrace, f P.sz] (by simp [nineP, hf]) 0 5 _ rfl (by simp)).2
    obtain ⟨l9, hl9⟩ : ∃ l', l' = l8 ++ lnP [nTrace, f P.sz] := ⟨_, rfl⟩
    obtain ⟨n9, hN9⟩ : ∃ n', n' = n8 + (lnP [nTrace, f P.sz]).length := ⟨_, rfl⟩
    rw [← hl9, ← hN9]
    have hn9 : n9 ≤ 4500 := by omega
    have hln9 : l9.length = n9 := by rw [hl9, hN9, List.length_append, hln8]
    clear hN9 hb9
    refine RL.nil (NQ.seq (CW.ok [1, 5, 6] rfl (CW.seq (CW.seq (CW.rg (RL.fieldAddr fa_32_0 rfl rfl rfl rfl (RL.loadq Tryz.isAgg22 rfl rfl rfl rfl ?_)))))))
    refine RL.lenS Tryz.runUnderlying22 rfl rfl rfl rfl (RL.p rfl (RL.nil (NQ.seq (CW.block ?_))))
    have hpos : 0 < n9 := by rw [← hln9, hl9, List.length_append, lnP, List.length_append, List.length_singleton]; omega
    have hl9' : l9 = (nineP P).flatMap lnP := by
      rw [hl9, hl8, hl7, hl6, hl5, hl4, hl3, hl2, hl1, hl0, hf]
      simp [nineP]
    clear hl9 hl8 hl7 hl6 hl5 hl4 hl3 hl2 hl1 hl0
    refine CW.loop (γ := Nat × Option Nat × Nat) (fun g => g.1 ≤ P.cf.L.length ∧ g.2.1.isSome = true) (fun g => [(1, .pointer (some ⟨b1, 0, none⟩)), (6, .pointer (me b3)), (106, slO oa P.cf.L.length ca), (107, .int .i64 (P.cf.L.length : Int)), (108, .int .i64 (g.1 : Int))]) (fun _ => J2)
      (fun g => [cel b3 [.pointer (me b3), slO g.2.1 (n9 + (sL (P.cf.L.take g.1)).length) g.2.2] 87, own g.2.1 g.2.2 5 1 (n9 + (sL (P.cf.L.take g.1)).length) (bytes (l9 ++ sL (P.cf.L.take g.1)))]) (fun g => P.cf.L.length - g.1) (0, ob9, cap9) ⟨Nat.zero_le _, ho9⟩ (.cons rfl (.cons rfl (.cons rfl (.cons rfl (.cons rfl .nil))))) (fun w h => ?_) ?_
    · dsimp only
      rw [show sL (P.cf.L.take 0) = [] from rfl, List.append_nil]
      exact h.rea (fun _ h => h) (by repeat (first | exact Rea.nil | (apply Rea.cons; (solve | (repeat (first | exact Del.here | apply Del.there))))))
    rintro ⟨i, oq, cq⟩ ⟨hi, hq⟩
    dsimp only at hi hq ⊢
    have hsl := sL_len (L := P.cf.L.take i) (fun s hs => hA.L s (List.mem_of_mem_take hs))
    rw [List.length_take] at hsl
    refine CW.fact (p := oa = none → P.cf.L.length = 0) (fun w hC e => sls_nil (hC.s.i _ k2) (by rw [e]; rfl)) (fun hpa => ?_)
    refine CW.seq (CW.rg (RL.p rfl (RL.nil (NQ.seq (CW.seq ?_)))))
    refine CW.cond rfl (fun hlt => ?_) (fun hlt => ?_)
    ·
      have hlt' : i < P.cf.L.length := by simp at hlt; omega
      cases oa with
      | none => exact absurd (hpa rfl) (by omega)
      | some ba =>
      have hx := List.getElem?_eq_getElem hlt'
      generalize P.cf.L[i] = s at hx
      have hsm := List.mem_of_getElem? hx
      have hst := sL_step hx
      have hs48 := hLl s hsm
      have fB : RdsN J2 ⟨ba, 0 + i * 48, none⟩ 48 s.cells := flat_rdsN (f := Sr.cells) k2 hx hLl
      have wsr := wrsrc_any b3 (me b3) (.inr rfl) oq cq (n9 + (sL (P.cf.L.take i)).length) (l9 ++ sL (P.cf.L.take i)) s (hA.L s hsm) (by omega)
      dsimp only [bdL] at wsr
      refine CW.skip (NQ.seq (CW.seq (CW.block (CW.seq (CW.region (ef := [2, 3]) (bk := [3]) (RL.idxAt (j := i) Tryz.runUnderlying22 Tryz.sizeOf98 rfl rfl rfl rfl rfl rfl (hlt') (RL.loadSq Tryz.isAgg98 Tryz.sizeOf98 rfl rfl rfl rfl ?_)))))))
      refine RL.alloc Tryz.zeroValue98 rfl rfl rfl rfl rfl ?_
      intro b13
      refine RL.storeW Tryz.sizeOf98 rfl rfl rfl rfl rfl rfl rfl (sr_ones s) (by repeat (first | exact Upd.here | apply Upd.there)) hs48 rfl ?_
      refine RL.nil (NQ.seq (CW.region (ef := [2]) (bk := [2]) (RL.p rfl (RL.loadW Tryz.isAgg98 Tryz.sizeOf98 rfl rfl rfl rfl (by repeat (first | exact List.Mem.head _ | apply List.Mem.tail)) hs48 ?_))))
      refine RL.call (wsr) Tryz.call31 rfl rfl rfl rfl rfl (by repeat (first | exact Pick.nil | apply Pick.take | apply Pick.leave)) (.inI nG .nil) (.inr rfl) ?_
      rintro _ _ _ ⟨oq2, cq2, rfl, rfl, rfl, hq2⟩
      dsimp only [bdL]
      refine RL.nil (NQ.block (NQ.seq (CW.ok [1, 6, 106, 107, 108] rfl (CW.rg (RL.bx rfl (wrapV_i64 (by omega) (by omega)) ?_)))))
      refine RL.p rfl (RL.nil ?_)
      refine NQ.round (g := (i, oq, cq)) (i + 1, oq2, cq2) ⟨hlt', hq2⟩ (by show P.cf.L.length - (i + 1) < P.cf.L.length - i; omega) (.cons rfl (.cons rfl (.cons rfl (.cons rfl (.cons rfl .nil))))) (fun w h => ?_)
      dsimp only
      rw [hst, List.length_append, ← List.append_assoc, ← Nat.add_assoc]
      exact h.rea (fun _ h => h) (by repeat (first | exact Rea.nil | (apply Rea.cons; (solve | (repeat (first | exact Del.here | apply Del.there))))))
    · have hin : i = P.cf.L.length := by simp at hlt; omega
      subst hin
      rw [List.take_length] at hsl ⊢
      obtain ⟨nS, hnS⟩ : ∃ m, m = n9 + (sL P.cf.L).length := ⟨_, rfl⟩
      obtain ⟨lS, hlS⟩ : ∃ m, m = l9 ++ sL P.cf.L := ⟨_, rfl⟩
      have hlnS : lS.length = nS := by rw [hlS, hnS, List.length_append, hln9]
      have hnS2 : nS ≤ 300000 := by omega
      have hpos2 : 0 < nS := by omega
      rw [← hnS, ← hlS]
      clear hnS hsl hi
      refine CW.exit (XQ.seq (XQ.seq (XQ.hit (NQ.seq (CW.seq (CW.seq (CW.rg (RL.fieldAddr fa_35_1 rfl rfl rfl rfl (RL.loadq Tryz.isAgg33 rfl rfl rfl rfl ?_)))))))))
      refine RL.lenS Tryz.runUnderlying33 rfl rfl rfl rfl (RL.p rfl (RL.nil (NQ.seq (CW.ok [6, 117, 118, 119] rfl (CW.block ?_)))))
      refine CW.loop (γ := Nat × Option Nat × Nat) (fun g => g.1 ≤ P.zs.length ∧ g.2.1.isSome = true) (fun g => [(6, .pointer (me b3)), (117, slO oz P.zs.length cz), (118, .int .i64 (P.zs.length : Int)), (119, .int .i64 (g.1 : Int))]) (fun _ => J2)
        (fun g => [cel b3 [.pointer (me b3), slO g.2.1 (nS + (zL (P.zs.take g.1)).length) g.2.2] 87, own g.2.1 g.2.2 5 1 (nS + (zL (P.zs.take g.1)).length) (bytes (lS ++ zL (P.zs.take g.1)))]) (fun g => P.zs.length - g.1) (0, oq, cq) ⟨Nat.zero_le _, hq⟩ (.cons rfl (.cons rfl (.cons rfl (.cons rfl .nil)))) (fun w h => ?_) ?_
      · dsimp only
        rw [show zL (P.zs.take 0) = [] from rfl, List.append_nil]
        exact h.rea (fun _ h => h) (by repeat (first | exact Rea.nil | (apply Rea.cons; (solve | (repeat (first | exact Del.here | apply Del.there))))))
      clear hq
      rintro ⟨i, oy, cy⟩ ⟨hi, hq⟩
      dsimp only at hi hq ⊢
      have hzl := zL_len (L := P.zs.take i) (fun s hs => hA.z s (List.mem_of_mem_take hs))
      rw [List.length_take] at hzl
      refine CW.fact (p := oz = none → P.zs.length = 0) (fun w hC e => sls_nil (hC.s.i _ k3) (by rw [e]; rfl)) (fun hpz => ?_)
      refine CW.seq (CW.rg (RL.p rfl (RL.nil (NQ.seq (CW.seq ?_)))))
      refine CW.cond rfl (fun hlt2 => ?_) (fun hlt2 => ?_)
      ·
        have hlt' : i < P.zs.length := by simp at hlt2; omega
        cases oz with
        | none => exact absurd (hpz rfl) (by omega)
        | some bz =>
        have hzlen := hP.len
        obtain ⟨z, hz⟩ : ∃ z, ZL[i]? = some z := ⟨_, List.getElem?_eq_getElem (by omega)⟩
        have hzm := List.mem_of_getElem? hz
        have hz1 : P.zs[i]? = some z.1 := by rw [← hP.zl, List.getElem?_map, hz]; rfl
        have hst := zL_step hz1
        have fB : RdsN J2 ⟨bz, 0 + i * 4, none⟩ 4 (znO z) := flat_rdsN (f := znO) k3 hz (fun z _ => znO_len z)
        have wzr := wrzon_any b3 (me b3) (.inr rfl) oy cy (nS + (zL (P.zs.take i)).length) (lS ++ zL (P.zs.take i)) z.1 (hA.z _ (List.mem_of_getElem? hz1)) (by omega) z.2.1 z.2.2 _ rfl
        dsimp only [bdL] at wzr
        refine CW.skip (NQ.seq (CW.seq (CW.block (CW.seq (CW.region (ef := [2, 3]) (bk := [3]) (RL.idxAt (j := i) Tryz.runUnderlying33 Tryz.sizeOf73 rfl rfl rfl rfl rfl rfl (hlt') (RL.loadSq Tryz.isAgg73 Tryz.sizeOf73 rfl rfl rfl rfl ?_)))))))
        refine RL.alloc Tryz.zeroValue73 rfl rfl rfl rfl rfl ?_
        intro b13
        refine RL.store (vs := [_, _, _, _]) Tryz.sizeOf73 rfl rfl rfl rfl rfl rfl rfl rfl rfl (by repeat (first | exact Upd.here | apply Upd.there)) ?_
        refine RL.nil (NQ.seq (CW.region (ef := [2]) (bk := [2]) (RL.p rfl (RL.loadW Tryz.isAgg73 Tryz.sizeOf73 rfl rfl rfl rfl (by repeat (first | exact List.Mem.head _ | apply List.Mem.tail)) rfl ?_))))
        refine RL.call (wzr) Tryz.call32 rfl rfl rfl rfl rfl (by repeat (first | exact Pick.nil | apply Pick.take | apply Pick.leave)) (.inI nG (.inI (k4 z hzm) .nil)) (.inr rfl) ?_
        rintro _ _ _ ⟨oq2, cq2, rfl, rfl, rfl, hq2⟩
        dsimp only [bdL]
        refine RL.nil (NQ.block (NQ.seq (CW.ok [6, 117, 118, 119] rfl (CW.rg (RL.bx rfl (wrapV_i64 (by omega) (by omega)) ?_)))))
        refine RL.p rfl (RL.nil ?_)
        refine NQ.round (g := (i, oy, cy)) (i + 1, oq2, cq2) ⟨hlt', hq2⟩ (by show P.zs.length - (i + 1) < P.zs.length - i; omega) (.cons rfl (.cons rfl (.cons rfl (.cons rfl .nil)))) (fun w h => ?_)
        dsimp only
        rw [hst, List.length_append, ← List.append_assoc, ← Nat.add_assoc]
        exact h.rea (fun _ h => h) (by repeat (first | exact Rea.nil | (apply Rea.cons; (solve | (repeat (first | exact Del.here | apply Del.there))))))
      · have hin : i = P.zs.length := by simp at hlt2; omega
        subst hin
        rw [List.take_length] at hzl ⊢
        obtain ⟨qq, rfl⟩ := Option.isSome_iff_exists.1 hq
        have wst := bstr_any 87 b3 (me b3) qq cy (nS + (zL P.zs).length) (lS ++ zL P.zs) (by rw [List.length_append, hlnS]) (by omega) (by omega)
        dsimp only [bdL] at wst
        refine CW.exit (XQ.seq (XQ.seq (XQ.hit (NQ.seq (CW.seq (CW.region (ef := [3]) (bk := [3]) (RL.p rfl (RL.p rfl (RL.fieldAddr fa_87_0 rfl rfl rfl rfl (RL.callq (wst) Tryz.call33 rfl rfl rfl rfl rfl (.inr rfl) ?_))))))))))
        rintro _ _ _ ⟨rfl, rfl, rfl⟩
        refine RL.p rfl (RL.p rfl (RL.nil (NQ.seq (CW.ok [2, 3] rfl (CW.ret ?_)))))
        refine RQ.post (res2 rfl rfl rfl) (Split.none _) ⟨?_, rfl, rfl⟩
        rw [prV, if_pos he', prT_eq, hlS, hl9']
end Go.Proofs.YthndhipjfdgdfaaGreatDoor
