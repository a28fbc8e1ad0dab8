import Derived.Test.YthgjgeapfndeeaaGreatDoorBase0
import Derived.Test.YthgjgeapfndeeaaGreatDoorRef8
import Derived.Test.YthgjgeapfndeeaaGreatDoorUA
import Derived.Test.YthgjgeapfndeeaaGreatDoorOwnN
set_option linter.unusedVariables false
set_option linter.unusedSimpArgs false
namespace Go.Proofs.YthgjgeapfndeeaaGreatDoor
open Go.PK

/-- An entry. -/
structure Ent where
  t : Int
  k : Int
  s : Int
  e : Int
def Ent.cells (x : Ent) : List Value := [.int .i64 x.t, .int .i64 x.k, .int .i64 x.s, .int .i64 x.e]
def twoB (n : Int) : Bool := decide (0 ≤ n) && decide (n ≤ 65535)
/-- It may be. -/
def Ent.ok (x : Ent) : Bool := decide (0 ≤ x.t) && decide (x.t ≤ 1099511627776) && twoB x.k && twoB x.s && twoB x.e
def Ent.be (x : Ent) : List B8 := beN 8 x.t.toNat ++ beN 2 x.k.toNat ++ beN 2 x.s.toNat ++ beN 2 x.e.toNat
theorem Ent.be_length (x : Ent) : x.be.length = 14 := by simp [Ent.be, beN_length]
/-- The head with an entry more. -/
def nextD (h : List B8) (x : Ent) : List B8 := sha (h ++ x.be)
theorem nextD_length (h : List B8) (x : Ent) : (nextD h x).length = 32 := sha_length _
theorem Ent.ok_iff {x : Ent} : x.ok = true ↔ (0 ≤ x.t ∧ x.t ≤ 1099511627776) ∧ (0 ≤ x.k ∧ x.k ≤ 65535) ∧ (0 ≤ x.s ∧ x.s ≤ 65535) ∧ (0 ≤ x.e ∧ x.e ≤ 65535) := by
  simp only [Ent.ok, twoB, Bool.and_eq_true, decide_eq_true_eq]
  constructor
  · rintro ⟨⟨⟨h1, h2⟩, h3⟩, h4⟩; exact ⟨h1, h2, h3, h4⟩
  · rintro ⟨h1, h2, h3, h4⟩; exact ⟨⟨⟨h1, h2⟩, h3⟩, h4⟩
/-- Bytes of one's own, so many. -/
def OwnM (n : Nat) (l : List B8) : Value → List It → List It → Prop := fun v I' H' => ∃ b, v = .slice (some ⟨b, 0, none⟩) n n ∧ I' = [] ∧ H' = [cel b (bytes l) 5]

theorem mk_step {l : List B8} {i n : Nat} (hi : i < n) {v : B8} (hl : l.length = n) (hv : l[i]? = some v) : spl (bytes (l.take i) ++ List.replicate (n - i) (U8 0#8)) (0 + i * 1) [U8 v] = bytes (l.take (i + 1)) ++ List.replicate (n - (i + 1)) (U8 0#8) := by
  have e : (bytes (l.take i)).length = i := by rw [List.length_map, List.length_take]; omega
  have h := spl_snoc (z := U8 0#8) (v := U8 v) (k := n - (i + 1)) (bytes (l.take i))
  rw [e] at h
  rw [show 0 + i * 1 = i by omega, show n - i = n - (i + 1) + 1 by omega, h]
  have hlt : i < l.length := by omega
  rw [List.getElem?_eq_getElem hlt, Option.some.injEq] at hv
  rw [List.take_succ_eq_append_getElem hlt, hv]
  simp
theorem num_any (N n : Nat) (h0 : 0 < n) (hn : n ≤ 8) : Spc Tryz.prog 115 #[.int .i64 (N : Int), .int .i64 (n : Int)] [] [] (OwnM n (beN n N)) := by
  refine Spc.enter Tryz.func115 rfl rfl rfl (fun w0 hw0 => ?_)
  refine CW.seq (CW.rg (RL.p rfl (RL.nil (NQ.seq (CW.seq (CW.region (ef := [1]) (bk := []) (RL.p rfl (RL.makeSlice (len := n) (zs := [U8 0#8]) Tryz.runUnderlying22 Tryz.sizeOf5 (ii := Tryz.t5) (by kernel_rfl) Tryz.zeroValue5 rfl rfl (by decide) h0 (by show n * 1 ≤ 1000000; omega) (by omega) rfl rfl rfl rfl rfl rfl rfl rfl ?_))))))))
  intro b1
  rw [reps_one]
  refine RL.p rfl (RL.nil (NQ.seq (CW.seq (CW.seq (CW.rg (RL.p rfl (RL.lenS Tryz.runUnderlying22 rfl rfl rfl rfl (RL.p rfl (RL.nil (NQ.seq (CW.block ?_)))))))))))
  refine CW.loop (γ := Nat) (fun i => i ≤ n) (fun i => [(0, .int .i64 (N : Int)), (1, .int .i64 (n : Int)), (5, .slice (some ⟨b1, 0, none⟩) n n), (10, .int .i64 (n : Int)), (11, .int .i64 (i : Int))]) (fun _ => [])
    (fun i => [cel b1 (bytes ((beN n N).take i) ++ List.replicate (n - i) (U8 0#8)) 5]) (fun i => n - i) 0 (by simp) (.cons rfl (.cons rfl (.cons rfl (.cons rfl (.cons rfl .nil))))) (fun w h => h) ?_
  intro i hi
  refine CW.seq (CW.rg (RL.p rfl (RL.nil (NQ.seq (CW.seq ?_)))))
  refine CW.cond rfl (fun hlt => ?_) (fun hlt => ?_)
  ·
    refine CW.skip (NQ.seq (CW.seq (CW.block (CW.seq (CW.rg (RL.p rfl (RL.p rfl (RL.nil (NQ.seq (CW.region (ef := [11]) (bk := [11]) (RL.p rfl (RL.p rfl (RL.p rfl ?_)))))))))))))
    refine RL.p rfl (RL.bx rfl (wrapV_i64 (by omega) (by omega)) ?_)
    refine RL.p rfl (RL.bx rfl (wrapV_i64 (by omega) (by omega)) ?_)
    refine RL.bx rfl (wrapV_i64 (by omega) (by omega)) ?_
    have hlt : i < n := by simp at hlt; omega
    refine RL.shr (8 * (n - 1 - i)) rfl rfl rfl rfl rfl (by omega) (by show 8 * (n - 1 - i) ≤ 64; omega) ?_
    refine RL.conv Tryz.runUnderlying3 Tryz.runUnderlying5 rfl rfl rfl rfl (RL.idxAt (j := i) Tryz.runUnderlying22 Tryz.sizeOf5 rfl rfl rfl rfl rfl rfl hlt ?_)
    rw [byteA]
    refine RL.storeX (vs := [_]) (mk_step (l := beN n N) hlt (beN_length _ _) (by rw [beN_get n N i hlt, Nat.pow_mul])) Tryz.sizeOf5 rfl rfl rfl rfl rfl rfl rfl rfl (by repeat (first | exact Upd.here | apply Upd.there)) (by simp [beN_length]; omega) ?_
    refine RL.nil (NQ.block (NQ.seq (CW.ok [0, 1, 5, 10, 11] rfl (CW.rg (RL.bx rfl (wrapV_i64 (by omega) (by omega)) ?_)))))
    refine RL.p rfl (RL.nil ?_)
    refine NQ.round (g := i) (i + 1) hlt (by show n - (i + 1) < n - i; omega) (.cons rfl (.cons rfl (.cons rfl (.cons rfl (.cons rfl .nil))))) (fun w h => h)
  ·
    refine CW.exit (XQ.seq (XQ.seq (XQ.hit (NQ.seq (CW.seq (CW.rg (RL.p rfl (RL.p rfl (RL.nil (NQ.seq (CW.ok [4] rfl (CW.ret ?_))))))))))))
    have hin : i = n := by simp at hlt; omega
    subst hin
    rw [Nat.sub_self, List.replicate_zero, List.append_nil, List.take_of_length_le (by rw [beN_length]; exact Nat.le_refl _)]
    exact RQ.post (res1 rfl rfl) (.keep .nil) ⟨b1, rfl, rfl, rfl⟩

def odd (n : Int) : Bool := decide (n < 0) || decide (n > 65535)
theorem odd_two (n : Int) : odd n = !twoB n := by
  unfold odd twoB
  by_cases h1 : n < 0 <;> by_cases h2 : n > 65535 <;> simp [h1, h2] <;> omega
theorem odd_any (n : Int) : Spc Tryz.prog 204 #[.int .i64 n] [] [] (Is (.bool (odd n))) := by
  refine Spc.enter Tryz.func204 rfl rfl rfl (fun w0 hw0 => ?_)
  refine CW.seq (CW.rg (RL.p rfl (RL.nil (NQ.seq (CW.seq (CW.rg (RL.p rfl (RL.p rfl (RL.p rfl ?_)))))))))
  apply RL.orB (d := 5) (dp := 8) (l' := (Sq.of [6])) rfl (sK [2] rfl)
  ·
    intro hb3 K3
    refine RL.p rfl (RL.p rfl (RL.p rfl ?_))
    exact K3 _ (.cons rfl (sK [2] rfl))
  ·
    intro hb3 K3
    refine RL.p rfl (RL.p rfl (RL.p rfl ?_))
    exact K3 _ (.cons rfl (sK [2] rfl))
  refine RL.p rfl (RL.nil (NQ.seq (CW.ret ?_)))
  exact RQ.post (res1 rfl rfl) (Split.none _) ⟨rfl, rfl, rfl⟩

def findO : List Int → Nat → Int
  | [], _ => -1
  | x :: r, i => if odd x then (i : Int) else findO r (i + 1)
theorem findO_any : ∀ (l : List Int) (i : Nat), decide (findO l i ≥ 0) = l.any odd
  | [], i => rfl
  | x :: r, i => by
    rw [findO, List.any_cons]
    cases h : odd x
    · rw [if_neg (by simp), findO_any r (i + 1)]; simp
    · rw [if_pos rfl]; simp
theorem findO_walk (p : Option Addr) (n c : Nat) (l : List Int) (hn : l.length = n) (hb : n ≤ 1000000000) : Spc Tryz.prog 302 #[.slice p n c, .func (.func 204) #[] #[]] [sls p 1 n (ints l)] [] (Is (.int .i64 (findO l 0))) := by
  subst hn
  refine Spc.enter Tryz.func302 rfl rfl rfl (fun w0 hw0 => ?_)
  refine CW.seq (CW.rg (RL.p rfl (RL.nil (NQ.seq (CW.seq (CW.seq (CW.rg (RL.p rfl (RL.lenS Tryz.runUnderlying237 rfl rfl rfl rfl (RL.p rfl (RL.nil (NQ.seq (CW.block ?_)))))))))))))
  refine CW.loop (γ := Nat) (fun i => i ≤ l.length ∧ findO l 0 = findO (l.drop i) i) (fun i => [(0, .slice p l.length c), (1, .func (.func 204) #[] #[]), (7, .int .i64 (l.length : Int)), (8, .int .i64 (i : Int))]) (fun _ => [sls p 1 l.length (ints l)])
    (fun _ => []) (fun i => l.length - i) 0 ⟨by omega, by simp⟩ (.cons rfl (.cons rfl (.cons rfl (.cons rfl .nil)))) (fun w h => h) ?_
  rintro i ⟨hi, he⟩
  refine CW.fact (p := p = none → l.length = 0) (fun w hC e => sls_nil (hC.s.i _ (List.Mem.head _)) e) (fun hpp => ?_)
  refine CW.seq (CW.rg (RL.p rfl (RL.nil (NQ.seq (CW.seq ?_)))))
  refine CW.cond rfl (fun hlt => ?_) (fun hlt => ?_)
  ·
    have hlt : i < l.length := by simp at hlt; omega
    obtain ⟨a, rfl⟩ : ∃ a, p = some a := by
      cases p with
      | none => exact absurd (hpp rfl) (by omega)
      | some a => exact ⟨a, rfl⟩
    have hd : l.drop i = l[i] :: l.drop (i + 1) := List.drop_eq_getElem_cons hlt
    rw [hd, findO] at he
    refine CW.skip (NQ.seq (CW.seq (CW.block (CW.seq (CW.rg (RL.p rfl (RL.p rfl (RL.nil (NQ.seq (CW.seq (CW.region (ef := [5]) (bk := []) (RL.p rfl (RL.p rfl ?_)))))))))))))
    refine RL.p rfl (RL.idx (j := i) Tryz.runUnderlying237 Tryz.sizeOf3 rfl rfl rfl rfl rfl rfl hlt ?_)
    refine RL.load Tryz.isAgg3 rfl rfl rfl rfl (Rd.getS (by repeat (first | exact List.Mem.head _ | apply List.Mem.tail)) (show (ints l)[i * 1]? = some (.int .i64 l[i]) by rw [Nat.mul_one, List.getElem?_map, List.getElem?_eq_getElem hlt]; rfl)) ?_
    refine RL.callvF (odd_any l[i]) Tryz.call204 rfl rfl rfl rfl rfl (by repeat (first | exact Lend.nil | (refine Lend.inI ?_ ?_; (solve | (repeat (first | exact List.Mem.head _ | apply List.Mem.tail)))) | (refine Lend.inH ?_ ?_; (solve | (repeat (first | exact List.Mem.head _ | apply List.Mem.tail)))))) ?_
    refine RL.nil (NQ.seq (CW.ok [0, 1, 5, 7, 8, 16] rfl ?_))
    refine CW.cond rfl (fun ho => ?_) (fun ho => ?_)
    ·
      refine CW.seq (CW.rg (RL.p rfl (RL.p rfl (RL.nil (NQ.seq (CW.ret (RQ.block (RQ.seq (RQ.seq (RQ.block (RQ.seq ?_)))))))))))
      rw [if_pos ho] at he
      exact RQ.post (res1 rfl rfl) (Split.none _) ⟨by rw [he], rfl, rfl⟩
    ·
      refine CW.skip (NQ.block (NQ.seq (CW.rg (RL.bx rfl (wrapV_i64 (by omega) (by omega)) ?_))))
      refine RL.p rfl (RL.nil ?_)
      rw [if_neg (by rw [ho]; decide)] at he
      refine NQ.round (g := i) (i + 1) ⟨hlt, he⟩ (by show l.length - (i + 1) < l.length - i; omega) (.cons rfl (.cons rfl (.cons rfl (.cons rfl .nil)))) (fun w h => h)
  ·
    refine CW.exit (XQ.seq (XQ.seq (XQ.hit (NQ.seq (CW.seq (CW.rg (RL.p rfl (RL.nil (NQ.seq (CW.ret ?_))))))))))
    have hin : i = l.length := by simp at hlt; omega
    subst hin
    rw [List.drop_length] at he
    exact RQ.post (res1 rfl rfl) (Split.none _) ⟨by rw [he]; rfl, rfl, rfl⟩
theorem hasO_walk (p : Option Addr) (n c : Nat) (l : List Int) (hn : l.length = n) (hb : n ≤ 1000000000) : Spc Tryz.prog 205 #[.slice p n c, .func (.func 204) #[] #[]] [sls p 1 n (ints l)] [] (Is (.bool (l.any odd))) := by
  refine Spc.enter Tryz.func205 rfl rfl rfl (fun w0 hw0 => ?_)
  refine CW.seq (CW.rg (RL.p rfl (RL.nil (NQ.seq (CW.seq (CW.rg (RL.p rfl (RL.p rfl (RL.callvq (findO_walk p n c l hn hb) Tryz.call302 rfl rfl rfl rfl ?_)))))))))
  refine RL.p rfl (RL.p rfl (RL.nil (NQ.seq (CW.ok [4] rfl (CW.ret ?_)))))
  exact RQ.post (res1 rfl rfl) (Split.none _) ⟨by rw [← findO_any l 0], rfl, rfl⟩
theorem eright_any (x : Ent) : Spc Tryz.prog 113 #[.agg x.cells.toArray] [] [] (Is (.bool x.ok)) := by
  refine Spc.enter Tryz.func113 rfl rfl rfl (fun w0 hw0 => ?_)
  refine CW.seq (CW.region (ef := [0]) (bk := []) (RL.box rfl rfl rfl rfl rfl rfl ?_))
  intro b1
  refine RL.p rfl (RL.nil (NQ.seq (CW.seq (CW.rg (RL.p rfl (RL.nil (NQ.seq (CW.seq (CW.region (ef := [15]) (bk := []) (RL.fieldAddr fa_211_0 rfl rfl rfl rfl (RL.loadq Tryz.isAgg3 rfl rfl rfl rfl ?_)))))))))))
  refine RL.p rfl (RL.p rfl ?_)
  apply RL.andB (d := 7) (dp := 11) (l' := (Sq.of [8, 9, 10, 11, 12, 13, 14, 15, 16, 17, 18, 19, 20])) rfl (sK [1, 2, 3] rfl)
  ·
    intro hb4 K4
    refine RL.fieldAddr fa_211_0 rfl rfl rfl rfl (RL.loadq Tryz.isAgg3 rfl rfl rfl rfl ?_)
    refine RL.p rfl (RL.p rfl ?_)
    exact K4 _ (.cons rfl (sK [1, 2, 3] rfl))
  ·
    intro hb4 K4
    refine RL.p rfl (RL.p rfl (RL.p rfl (RL.p rfl ?_)))
    exact K4 _ (.cons rfl (sK [1, 2, 3] rfl))
  refine RL.p rfl ?_
  refine RL.part (d := 12) rfl (fun h => ?_) (fun h => ?_)
  ·
    refine RL.fieldAddr fa_211_1 rfl rfl rfl rfl (RL.loadq Tryz.isAgg3 rfl rfl rfl rfl ?_)
    refine RL.fieldAddr fa_211_2 rfl rfl rfl rfl (RL.loadq Tryz.isAgg3 rfl rfl rfl rfl ?_)
    refine RL.fieldAddr fa_211_3 rfl rfl rfl rfl (RL.loadq Tryz.isAgg3 rfl rfl rfl rfl ?_)
    refine RL.buildSlice [_, _, _] Tryz.runUnderlying237 Tryz.sizeOf3 Tryz.zeroValue3 rfl rfl (by decide) (by decide) rfl rfl rfl rfl rfl rfl ?_
    intro b2
    refine RL.p rfl (RL.callv (hasO_walk (some ⟨b2, 0, none⟩) 3 3 [x.k, x.s, x.e] rfl (by decide)) Tryz.call205 rfl rfl rfl rfl (Lend.all (by repeat (first | exact List.Mem.head _ | apply List.Mem.tail)) rfl .nil) ?_)
    refine RL.p rfl (RL.p rfl (RL.p rfl (RL.nil (NQ.seq (CW.ok [2] rfl (CW.ret ?_))))))
    exact RQ.post (res1 rfl rfl) (Split.none _) ⟨by simp at h; simp [Ent.ok, h, odd_two, Bool.and_assoc], rfl, rfl⟩
  ·
    refine RL.p rfl (RL.p rfl (RL.p rfl (RL.p rfl (RL.p rfl (RL.p rfl (RL.p rfl (RL.p rfl (RL.p rfl (RL.p rfl (RL.p rfl (RL.p rfl (RL.nil (NQ.seq ?_)))))))))))))
    refine CW.ok [2] rfl (CW.ret ?_)
    exact RQ.post (res1 rfl rfl) (Split.none _) ⟨by simp only [Ent.ok, h, Bool.false_and], rfl, rfl⟩
end Go.Proofs.YthgjgeapfndeeaaGreatDoor

namespace Go.Proofs.YthgjgeapfndeeaaGreatDoor
open Go.PK

theorem Lend.celI {I F J : List It} {b sz nn : Nat} {cs : List Value} {T : TypeId} (hm : cel b cs T ∈ I) (hl : cs.length = nn * sz) (h : Lend I F J) : Lend I F (sls (some ⟨b, 0, none⟩) sz nn cs :: J) :=
  .of (fun w hw => cel_sls (hw.i _ hm) hl (fun j u hj => by rw [Nat.zero_add]; exact hj)) (fun c hc => .inl (mem_bss.2 ⟨_, hm, by simp [sls, cel] at hc ⊢; exact hc.2⟩)) h
theorem num_i (a : Int) (ha : 0 ≤ a) (n : Nat) (h0 : 0 < n) (hn : n ≤ 8) : Spc Tryz.prog 115 #[.int .i64 a, .int .i64 (n : Int)] [] [] (OwnM n (beN n a.toNat)) := by
  have h := num_any a.toNat n h0 hn
  rwa [Int.toNat_of_nonneg ha] at h
/-- What 'Next' tells. -/
def nextV (h : List B8) (x : Ent) : Value := .tuple #[.agg (bytes (if x.ok then nextD h x else zeros)).toArray, .int .i64 (if x.ok then 0 else 2)]
theorem next_yes {h : List B8} {x : Ent} (hx : x.ok = true) : nextV h x = .tuple #[.agg (bytes (nextD h x)).toArray, .int .i64 0] := by unfold nextV; rw [if_pos hx, if_pos hx]
theorem next_no {h : List B8} {x : Ent} (hx : x.ok = false) : nextV h x = .tuple #[.agg (bytes zeros).toArray, .int .i64 2] := by unfold nextV; rw [if_neg (by simp [hx]), if_neg (by simp [hx])]
theorem lenB (l : List B8) : (bytes l).length = l.length * 1 := by simp
theorem zeros32 : zeros.length = 32 := rfl
theorem of_n (pp : Option Addr) (n cap : Nat) (ps : List Part) (l : List B8) (hn : ps.length = n) (hj : joined ps = l) (h1 : n ≤ 1000000000) (hb : l.length ≤ 1000000000) (vs : List Value) (hv : ps.map Part.v = vs) :
    Spc Tryz.prog 114 #[.slice pp n cap] (sls pp 1 n vs :: ps.map Part.i) [] (Is (.agg (bytes (sha l)).toArray)) := by
  subst hn; subst hj; subst hv
  exact of_any pp cap ps h1 hb
theorem enext_any (h : List B8) (hl : h.length = 32) (x : Ent) : Spc Tryz.prog 63 #[.agg (bytes h).toArray, .agg x.cells.toArray] [] [] (Is (nextV h x)) := by
  refine Spc.enter Tryz.func63 rfl rfl rfl (fun w0 hw0 => ?_)
  refine CW.seq (CW.region (ef := [0, 1, 2]) (bk := []) (RL.box rfl rfl rfl rfl rfl rfl ?_))
  intro b1
  refine RL.box rfl rfl rfl rfl rfl rfl ?_
  intro b2
  refine RL.alloc (cs := List.replicate 32 (U8 0#8)) Tryz.zeroValue50 rfl rfl rfl rfl rfl ?_
  intro b3
  refine RL.p rfl (RL.nil (NQ.seq (CW.seq (CW.seq (CW.freezeP (A := [_, _]) (B := [_]) (.leave (.take (.take .nil))) rfl ?_)))))
  simp only [List.cons_append, List.nil_append]
  refine CW.rg ?_
  first | refine RL.loadW Tryz.isAgg211 Tryz.sizeOf211 rfl rfl rfl rfl (by (solve | (repeat (first | exact List.Mem.head _ | apply List.Mem.tail)))) (by first | rfl | assumption | (simp only [List.length_map]; assumption) | (simp only [List.length_map, List.length_replicate, nextD_length, zeros32]; done) | (simp; done)) ?_ | refine RL.loadWI Tryz.isAgg211 Tryz.sizeOf211 rfl rfl rfl rfl (by (solve | (repeat (first | exact List.Mem.head _ | apply List.Mem.tail)))) (by first | rfl | assumption | (simp only [List.length_map]; assumption) | (simp only [List.length_map, List.length_replicate, nextD_length, zeros32]; done) | (simp; done)) ?_
  refine RL.callvq (eright_any x) Tryz.call113 rfl rfl rfl rfl ?_
  refine RL.p rfl (RL.nil (NQ.seq ?_))
  refine CW.cond rfl (fun hx => ?_) (fun hx => ?_)
  ·
    refine CW.seq (CW.region (ef := [1]) (bk := [1]) (RL.buildA (List.replicate 32 (U8 0#8)) Tryz.zeroValue50 Tryz.runUnderlying50 Tryz.sizeOf5 rfl rfl rfl rfl rfl (RL.storeWq Tryz.sizeOf50 rfl rfl rfl rfl rfl rfl rfl ?_)))
    refine RL.p rfl (RL.nil (NQ.seq (CW.ok [2, 3, 4, 5] rfl (CW.ret (RQ.seq ?_)))))
    have hx : x.ok = false := by simpa using hx
    rw [next_no hx]
    exact RQ.post (resWT rfl rfl rfl Tryz.isAgg50 Tryz.sizeOf50 (by repeat (first | exact List.Mem.head _ | apply List.Mem.tail)) rfl) (Split.none _) ⟨rfl, rfl, rfl⟩
  ·
    have hx : x.ok = true := by simpa using hx
    obtain ⟨h1, h2, h3, h4⟩ := Ent.ok_iff.1 hx
    rw [next_yes hx]
    refine CW.skip (NQ.seq (CW.ok [2, 3, 4] rfl (CW.seq (CW.regionD (Sq.of [0, 1, 2, 4, 5, 7, 8, 10, 11, 3, 6, 9, 12, 13, 14, 15, 16]) [3, 6, 9, 12, 13, 14, 15] [15] [0, 1, 2, 4, 5, 7, 8, 10, 11, 16] mixed (by kernel_rfl) ?_))))
    refine RL.sliceAll Tryz.runUnderlying50 Tryz.sizeOf5 (by decide) rfl rfl rfl rfl ?_
    refine RL.fieldAddr fa_211_0 rfl rfl rfl rfl (RL.loadTq Tryz.isAgg3 rfl rfl rfl rfl ?_)
    refine RL.fieldAddr fa_211_1 rfl rfl rfl rfl (RL.loadTq Tryz.isAgg3 rfl rfl rfl rfl ?_)
    refine RL.fieldAddr fa_211_2 rfl rfl rfl rfl (RL.loadTq Tryz.isAgg3 rfl rfl rfl rfl ?_)
    refine RL.fieldAddr fa_211_3 rfl rfl rfl rfl (RL.loadTq Tryz.isAgg3 rfl rfl rfl rfl ?_)
    refine RL.callq (num_i x.t h1.1 8 (by decide) (by decide)) Tryz.call115 rfl rfl rfl rfl rfl (.inl rfl) ?_
    rintro _ _ _ ⟨n1, rfl, rfl, rfl⟩
    refine RL.callq (num_i x.k h2.1 2 (by decide) (by decide)) Tryz.call115 rfl rfl rfl rfl rfl (.inl rfl) ?_
    rintro _ _ _ ⟨n2, rfl, rfl, rfl⟩
    refine RL.callq (num_i x.s h3.1 2 (by decide) (by decide)) Tryz.call115 rfl rfl rfl rfl rfl (.inl rfl) ?_
    rintro _ _ _ ⟨n3, rfl, rfl, rfl⟩
    refine RL.callq (num_i x.e h4.1 2 (by decide) (by decide)) Tryz.call115 rfl rfl rfl rfl rfl (.inl rfl) ?_
    rintro _ _ _ ⟨n4, rfl, rfl, rfl⟩
    refine RL.buildSlice [_, _, _, _, _] Tryz.runUnderlying397 Tryz.sizeOf22 Tryz.zeroValue22 rfl rfl (by decide) (by decide) rfl rfl rfl rfl rfl rfl ?_
    intro b4
    refine RL.callv (of_n (some ⟨b4, 0, none⟩) 5 5 [⟨some ⟨b1, 0, none⟩, 32, h⟩, ⟨some ⟨n1, 0, none⟩, 8, beN 8 x.t.toNat⟩, ⟨some ⟨n2, 0, none⟩, 2, beN 2 x.k.toNat⟩, ⟨some ⟨n3, 0, none⟩, 2, beN 2 x.s.toNat⟩, ⟨some ⟨n4, 0, none⟩, 2, beN 2 x.e.toNat⟩] (h ++ x.be) rfl (by simp [joined, Ent.be]) (by decide) (by rw [List.length_append, hl, Ent.be_length]; decide) [.slice (some ⟨b1, 0, none⟩) 32 32, .slice (some ⟨n1, 0, none⟩) 8 8, .slice (some ⟨n2, 0, none⟩) 2 2, .slice (some ⟨n3, 0, none⟩) 2 2, .slice (some ⟨n4, 0, none⟩) 2 2] (by simp only [List.map_cons, List.map_nil, Part.v, hl, beN_length])) Tryz.call114 rfl rfl rfl rfl (Lend.all (by repeat (first | exact List.Mem.head _ | apply List.Mem.tail)) rfl (Lend.celI (by repeat (first | exact List.Mem.head _ | apply List.Mem.tail)) (lenB _) (Lend.all (by repeat (first | exact List.Mem.head _ | apply List.Mem.tail)) (lenB _) (Lend.all (by repeat (first | exact List.Mem.head _ | apply List.Mem.tail)) (lenB _) (Lend.all (by repeat (first | exact List.Mem.head _ | apply List.Mem.tail)) (lenB _) (Lend.all (by repeat (first | exact List.Mem.head _ | apply List.Mem.tail)) (lenB _) .nil)))))) ?_
    refine RL.storeWq Tryz.sizeOf50 rfl rfl rfl rfl rfl rfl rfl ?_
    refine RL.p rfl (RL.nil (NQ.seq (CW.ok [4, 5] rfl (CW.ret ?_))))
    exact RQ.post (resWT rfl rfl rfl Tryz.isAgg50 Tryz.sizeOf50 (by repeat (first | exact List.Mem.head _ | apply List.Mem.tail)) (by rw [List.length_map, nextD_length])) (Split.none _) ⟨rfl, rfl, rfl⟩

end Go.Proofs.YthgjgeapfndeeaaGreatDoor
