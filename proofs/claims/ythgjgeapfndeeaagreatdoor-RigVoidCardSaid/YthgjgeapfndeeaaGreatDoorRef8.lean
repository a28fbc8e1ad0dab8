import Derived.Test.YthgjgeapfndeeaaGreatDoorDig
import Derived.Test.YthgjgeapfndeeaaGreatDoorPD
set_option linter.unusedVariables false
set_option linter.unusedSimpArgs false
namespace Go.Proofs.YthgjgeapfndeeaaGreatDoor
open Go.PK

def padded (l : List B8) : List B8 := l ++ padding (l.length % 64) l.length
theorem sha_padded (l : List B8) : sha l = dig (absorb iv (padded l)).1 := by
  have h := after_rest l
  have e : l.length % 64 = (after l).2.length := by omega
  rw [sha, fin, after_append, padded, e]; rfl
def padZ (n : Nat) : Nat := padEnd (n % 64) - n % 64 - 9
theorem padZ_spec (n j : Nat) (h : j ≤ padZ n) : (n + 1 + j) % 64 = 56 ↔ j = padZ n := by
  unfold padZ padEnd at *
  split at h <;> split <;> omega
theorem padded_eq (l : List B8) : padded l = l ++ 128#8 :: List.replicate (padZ l.length) 0#8 ++ be8 (l.length * 8) := by simp [padded, padding, padZ]
theorem padded_len (l : List B8) : (padded l).length = l.length + 1 + padZ l.length + 8 := by rw [padded_eq]; simp [be8_length]; omega
theorem padded_mod (l : List B8) : (padded l).length % 64 = 0 := by rw [padded_len]; have := (padZ_spec l.length _ (Nat.le_refl _)).2 rfl; omega

theorem tmodN (a b : Nat) : (a : Int).tmod (b : Int) = ((a % b : Nat) : Int) := by rw [Int.tmod_eq_emod_of_nonneg (by omega)]; simp
theorem tdivN (a b : Nat) : (a : Int).tdiv (b : Int) = ((a / b : Nat) : Int) := by rw [Int.tdiv_eq_ediv_of_nonneg (by omega)]; simp
theorem u64_quo (N j : Nat) (h : N ≤ 8000000000) : Value.int .u64 (IntKind.u64.wrap (((N / 256 ^ j : Nat) : Int).tdiv 256)) = .int .u64 ((N / 256 ^ (j + 1) : Nat) : Int) := by
  have h2 : N / 256 ^ (j + 1) ≤ N := Nat.div_le_self _ _
  rw [show (256 : Int) = ((256 : Nat) : Int) from rfl, tdivN, Nat.div_div_eq_div_mul, ← Nat.pow_succ]
  generalize N / 256 ^ (j + 1) = q at h2 ⊢
  congr 1
  simp only [IntKind.wrap, IntKind.bits, IntKind.signed]
  simp
  omega
theorem low_byte (N j : Nat) (hj : j < 8) : bytes ((be8 N).drop (8 - (j + 1))) = [U8 (BitVec.ofInt 8 (((N / 256 ^ j : Nat) : Int).tmod 256))] ++ bytes ((be8 N).drop (8 - j)) := by
  have e : BitVec.ofInt 8 (((N / 256 ^ j : Nat) : Int).tmod 256) = BitVec.ofNat 8 (N / 256 ^ j) := by
    rw [show (256 : Int) = ((256 : Nat) : Int) from rfl, tmodN, BitVec.ofInt_natCast]
    apply BitVec.eq_of_toNat_eq; simp
  rw [be8_cons N j hj, e]; rfl

theorem padded_any (p : Option Addr) (cap : Nat) (l : List B8) (hl : l.length ≤ 1000000000) : Spc Tryz.prog 352 #[.slice p l.length cap] [sls p 1 l.length (bytes l)] [] (OwnB (padded l)) := by
  have hz : padZ l.length ≤ 128 := by unfold padZ padEnd; split <;> omega
  refine Spc.enter Tryz.func352 rfl rfl rfl (fun w0 hw0 => ?_)
  refine CW.seq (CW.rg (RL.p rfl (RL.nil (NQ.seq (CW.seq (CW.region (ef := [0, 2, 3, 4]) (bk := [2, 4]) (RL.buildOwn [] Tryz.runUnderlying22 Tryz.sizeOf5 Tryz.zeroValue5 rfl rfl (by decide) (by decide) rfl (by decide) rfl rfl rfl rfl rfl rfl ?_)))))))
  intro b1
  refine RL.p rfl (RL.appendq el_22 rfl rfl rfl rfl rfl rfl rfl ?_)
  intro ob1 cap1 ho1
  refine RL.buildOwn [_] Tryz.runUnderlying22 Tryz.sizeOf5 Tryz.zeroValue5 rfl rfl (by decide) (by decide) rfl (by decide) rfl rfl rfl rfl rfl rfl ?_
  intro b2
  refine RL.appendq el_22 rfl rfl rfl rfl rfl rfl rfl ?_
  intro ob2 cap2 ho2
  refine RL.p rfl (RL.nil (NQ.seq (CW.ok [0, 3] rfl (CW.seq (CW.block ?_)))))
  rw [Nat.zero_add]
  refine CW.loop (γ := Nat × Option Nat × Nat) (fun g => g.1 ≤ padZ l.length) (fun g => [(0, .slice p l.length cap), (3, slO g.2.1 (l.length + 1 + g.1) g.2.2)]) (fun _ => [sls p 1 l.length (bytes l)])
    (fun g => [own g.2.1 g.2.2 5 1 (l.length + 1 + g.1) (bytes (l ++ 128#8 :: List.replicate g.1 0#8))]) (fun g => padZ l.length - g.1) (0, ob2, cap2) (by simp) (.cons rfl (.cons rfl .nil))
    (fun w h => by
      rw [own_is (ob := ob2) (n' := l.length + 1) (xs' := bytes (l ++ 128#8 :: List.replicate 0 0#8)) (by omega) (by simp; rfl)] at h
      exact h.rea (fun _ h => h) (by repeat (first | exact Rea.nil | (apply Rea.cons; (solve | (repeat (first | exact Del.here | apply Del.there))))))) ?_
  rintro ⟨j, ob, c⟩ hj
  dsimp only at hj ⊢
  refine CW.seq (CW.seq (CW.rg (RL.p rfl (RL.lenS Tryz.runUnderlying22 rfl rfl rfl rfl (RL.rem rfl rfl rfl rfl rfl (by decide) ?_)))))
  refine RL.p rfl (RL.nil (NQ.seq ?_))
  refine CW.cond rfl (fun ht => ?_) (fun ht => ?_)
  ·
    refine CW.skip (NQ.seq (CW.block (CW.region (ef := [1, 2]) (bk := [2]) (RL.p rfl (RL.buildOwn [_] Tryz.runUnderlying22 Tryz.sizeOf5 Tryz.zeroValue5 rfl rfl (by decide) (by decide) rfl (by decide) rfl rfl rfl rfl rfl rfl ?_)))))
    intro b3
    refine RL.appendq el_22 rfl rfl rfl rfl rfl rfl rfl ?_
    intro ob3 cap3 ho3
    refine RL.p rfl (RL.nil (NQ.block ?_))
    have hlt : j < padZ l.length := by
      have := padZ_spec l.length j hj
      rw [show (64 : Int) = ((64 : Nat) : Int) from rfl, tmodN] at ht
      simp at ht; omega
    refine NQ.round (g := (j, ob, c)) (j + 1, ob3, cap3) hlt (by show padZ l.length - (j + 1) < padZ l.length - j; omega) (.cons rfl (.cons rfl .nil)) (fun w h => ?_)
    rw [own_is (ob := ob3) (n' := l.length + 1 + (j + 1)) (xs' := bytes (l ++ 128#8 :: List.replicate (j + 1) 0#8)) (by omega) (by simp [List.replicate_succ']; rfl)] at h
    exact h.rea (fun _ h => h) (by repeat (first | exact Rea.nil | (apply Rea.cons; (solve | (repeat (first | exact Del.here | apply Del.there))))))
  ·
    have hjz : j = padZ l.length := by
      have := padZ_spec l.length j hj
      rw [show (64 : Int) = ((64 : Nat) : Int) from rfl, tmodN] at ht
      simp at ht; omega
    subst hjz
    refine CW.exit (XQ.seq (XQ.seq (XQ.hit (NQ.seq (CW.seq (CW.rg (RL.p rfl (RL.lenS Tryz.runUnderlying22 rfl rfl rfl rfl (RL.conv Tryz.runUnderlying3 Tryz.runUnderlying33 rfl rfl rfl rfl (RL.binX (v' := .int .u64 ((l.length * 8 / 256 ^ 0 : Nat) : Int)) rfl rfl rfl rfl rfl rfl (u64_size l.length hl) (RL.p rfl (RL.nil (NQ.seq ?_)))))))))))))
    refine CW.ok [3, 4] rfl (CW.seq (CW.region (ef := [0]) (bk := []) (RL.buildOwn [] Tryz.runUnderlying22 Tryz.sizeOf5 Tryz.zeroValue5 rfl rfl (by decide) (by decide) rfl (by decide) rfl rfl rfl rfl rfl rfl ?_)))
    intro b3
    refine RL.p rfl (RL.nil (NQ.seq (CW.seq (CW.seq (CW.rg (RL.p rfl (RL.nil (NQ.seq (CW.block ?_)))))))))
    refine CW.loop (γ := Nat × Option Nat × Nat) (fun g => g.1 ≤ 8) (fun g => [(3, slO ob (l.length + 1 + padZ l.length) c), (4, .int .u64 ((l.length * 8 / 256 ^ g.1 : Nat) : Int)), (5, slO g.2.1 g.1 g.2.2), (6, .int .i64 (g.1 : Int))]) (fun _ => [sls p 1 l.length (bytes l)])
      (fun g => [own g.2.1 g.2.2 5 1 g.1 (bytes ((be8 (l.length * 8)).drop (8 - g.1))), own ob c 5 1 (l.length + 1 + padZ l.length) (bytes (l ++ 128#8 :: List.replicate (padZ l.length) 0#8))]) (fun g => 8 - g.1) (0, some b3, 0) (by simp)
      (.cons rfl (.cons rfl (.cons rfl (.cons rfl .nil)))) (fun w h => h) ?_
    rintro ⟨i, ob', c'⟩ hi
    dsimp only at hi ⊢
    refine CW.seq (CW.seq (CW.rg (RL.p rfl (RL.p rfl (RL.nil (NQ.seq ?_))))))
    refine CW.cond rfl (fun hlt => ?_) (fun hlt => ?_)
    ·
      refine CW.skip (NQ.seq (CW.seq (CW.block (CW.seq (CW.region (ef := [3, 5]) (bk := [5]) (RL.p rfl (RL.rem rfl rfl rfl rfl rfl (by decide) ?_)))))))
      refine RL.lowest Tryz.runUnderlying33 Tryz.runUnderlying5 rfl rfl rfl rfl (RL.buildOwn [_] Tryz.runUnderlying22 Tryz.sizeOf5 Tryz.zeroValue5 rfl rfl (by decide) (by decide) rfl (by decide) rfl rfl rfl rfl rfl rfl ?_)
      intro b4
      refine RL.p rfl (RL.appendq el_22 rfl rfl rfl rfl rfl rfl rfl ?_)
      intro ob3 cap3 ho3
      refine RL.p rfl (RL.nil (NQ.seq (CW.ok [3, 4, 5, 6] rfl (CW.rg (RL.p rfl ?_)))))
      have hlt : i < 8 := by simp at hlt; omega
      refine RL.quoX (v' := .int .u64 ((l.length * 8 / 256 ^ (i + 1) : Nat) : Int)) rfl rfl rfl rfl rfl (by decide) (u64_quo _ _ (by omega)) ?_
      refine RL.p rfl (RL.nil (NQ.block (NQ.seq (CW.rg (RL.p rfl (RL.bx rfl (wrapV_i64 (by omega) (by omega)) ?_))))))
      refine RL.p rfl (RL.nil ?_)
      refine NQ.round (g := (i, ob', c')) (i + 1, ob3, cap3) hlt (by show 8 - (i + 1) < 8 - i; omega) (.cons rfl (.cons rfl (.cons (by rw [Nat.add_comm i 1]; rfl) (.cons rfl .nil)))) (fun w h => ?_)
      rw [own_is (ob := ob3) (n' := i + 1) (xs' := bytes ((be8 (l.length * 8)).drop (8 - (i + 1)))) (by omega) (low_byte _ _ hlt).symm] at h
      exact h.rea (fun _ h => h) (by repeat (first | exact Rea.nil | (apply Rea.cons; (solve | (repeat (first | exact Del.here | apply Del.there))))))
    ·
      have hi8 : i = 8 := by simp at hlt; omega
      subst hi8
      refine CW.exit (XQ.seq (XQ.seq (XQ.hit (NQ.seq (CW.seq (CW.region (ef := [2]) (bk := [2]) (RL.p rfl (RL.p rfl (RL.appendq el_22 rfl rfl rfl rfl rfl rfl rfl ?_)))))))))
      intro ob3 cap3 ho3
      refine RL.p rfl (RL.nil (NQ.seq (CW.ok [2] rfl (CW.ret ?_))))
      rw [own_is (ob := ob3) (n' := (padded l).length) (xs' := bytes (padded l)) (padded_len l).symm (by rw [padded_eq]; simp)]
      exact RQ.post (res1 rfl rfl) (.keep (.drop .nil)) ⟨ob3, cap3, by rw [padded_len], rfl, rfl, by simpa [padded_len] using ho3⟩

def dlay (X : S8) (i c q : Nat) : Value := if q < 4 * i ∨ (4 * i + 4 ≤ q + c ∧ q < 4 * i + 4) then U8 (dbyte X q) else U8 0#8
def dcells (X : S8) (i c : Nat) : List Value := (List.range 32).map (dlay X i c)
theorem dcells_next (X : S8) (i : Nat) : dcells X i 4 = dcells X (i + 1) 0 := by
  unfold dcells
  apply List.map_congr_left
  intro q _
  unfold dlay
  congr 1
  apply propext
  omega
theorem dcells_all (X : S8) : dcells X 8 0 = bytes (dig X) := by
  rw [dig, dcells]
  show _ = List.map U8 _
  rw [List.map_map]
  apply List.map_congr_left
  intro q hq
  have : q < 32 := by simpa using hq
  unfold dlay
  rw [if_pos (by omega)]; rfl
theorem mod_low (y : B32) : (y % 256#32).setWidth 8 = y.setWidth 8 := by
  apply BitVec.eq_of_toNat_eq
  rw [BitVec.toNat_setWidth, BitVec.toNat_setWidth, BitVec.toNat_umod]
  have : (256#32).toNat = 256 := rfl
  rw [this]; omega
theorem quo_low (y : B32) (c : Nat) : (y >>> (8 * c)) / 256#32 = y >>> (8 * (c + 1)) := by
  apply BitVec.eq_of_toNat_eq
  rw [BitVec.toNat_udiv, BitVec.toNat_ushiftRight, BitVec.toNat_ushiftRight, Nat.shiftRight_eq_div_pow, Nat.shiftRight_eq_div_pow]
  have : (256#32).toNat = 2 ^ 8 := rfl
  rw [this, Nat.div_div_eq_div_mul, ← Nat.pow_add, Nat.mul_add]
theorem dcells_step (X : S8) (i c : Nat) (hi : i < 8) (hc : c < 4) : spl (dcells X i c) (0 + (4 * i + 3 - c) * 1) [U8 ((sget X i >>> (8 * c) % 256#32).setWidth 8)] = dcells X i (c + 1) := by
  rw [Nat.zero_add, Nat.mul_one]
  refine spl_range (by omega) (fun q hq => ?_) ?_
  · unfold dlay
    congr 1
    apply propext
    omega
  · unfold dlay
    rw [if_pos (by omega), mod_low, dbyte, show (4 * i + 3 - c) / 4 = i by omega, show 3 - (4 * i + 3 - c) % 4 = c by omega]

theorem rof_any (p : Option Addr) (cap : Nat) (l : List B8) (hl : l.length ≤ 1000000000) : Spc Tryz.prog 271 #[.slice p l.length cap] [sls p 1 l.length (bytes l)] [] (Is (.agg (bytes (sha l)).toArray)) := by
  refine Spc.enter Tryz.func271 rfl rfl rfl (fun w0 hw0 => ?_)
  refine CW.seq (CW.region (ef := [0]) (bk := []) (RL.alloc Tryz.zeroValue50 rfl rfl rfl rfl rfl ?_))
  intro b1
  refine RL.nil (NQ.seq (CW.seq (CW.region (ef := [1]) (bk := []) (RL.p rfl (RL.callq (padded_any p cap l hl) Tryz.call352 rfl rfl rfl rfl rfl (.inl rfl) ?_)))))
  rintro _ _ _ ⟨ob, cp, rfl, rfl, rfl, ho⟩
  rw [sha_padded]
  have hR0 := padded_mod l
  have hR1 := padded_len l
  have hz : padZ l.length ≤ 128 := by unfold padZ padEnd; split <;> omega
  generalize hR : padded l = R at *
  obtain ⟨b, rfl⟩ : ∃ b, ob = some b := by
    cases ob with
    | none => rcases ho with h | h; · omega
              · cases h
    | some b => exact ⟨b, rfl⟩
  refine RL.p rfl (RL.nil (NQ.seq (CW.seq (CW.region (ef := [1, 2]) (bk := [2]) (RL.callvq (rfirst_any) Tryz.call353 rfl rfl rfl rfl ?_)))))
  refine RL.alloc Tryz.zeroValue545 rfl rfl rfl rfl rfl ?_
  intro b2
  refine RL.store (vs := [_, _, _, _, _, _, _, _]) Tryz.sizeOf545 rfl rfl rfl rfl rfl rfl rfl rfl rfl (by repeat (first | exact Upd.here | apply Upd.there)) ?_
  refine RL.nil (NQ.seq (CW.seq (CW.seq (CW.rg (RL.p rfl (RL.nil (NQ.seq (CW.block ?_))))))))
  refine CW.fact (p := R.length ≤ cp) (fun w hC => (hC.s.h (own (some b) cp 5 1 R.length (bytes R)) (by repeat (first | exact List.Mem.head _ | apply List.Mem.tail))).2.1) (fun hcp => ?_)
  refine CW.loop (γ := S8 × Nat) (fun g => absorb g.1 (R.drop g.2) = absorb iv R ∧ g.2 % 64 = 0 ∧ g.2 ≤ R.length) (fun g => [(2, .pointer (some ⟨b1, 0, none⟩)), (3, slO (some b) R.length cp), (4, .pointer (some ⟨b2, 0, none⟩)), (5, .int .i64 (g.2 : Int))])
    (fun _ => []) (fun g => [cel b2 g.1.cells 545, own (some b) cp 5 1 R.length (bytes R), cel b1 (List.replicate 32 (U8 0#8)) 50]) (fun g => R.length - g.2) (iv, 0) ⟨rfl, rfl, by omega⟩
    (.cons rfl (.cons rfl (.cons rfl (.cons rfl .nil)))) (fun w h => h.les (fun x hx => by cases hx) (Les.refl _)) ?_
  rintro ⟨st, a⟩ ⟨h1, h2, h3⟩
  dsimp only at h1 h2 h3 ⊢
  refine CW.seq (CW.seq (CW.rg (RL.p rfl (RL.bx rfl (wrapV_i64 (by omega) (by omega)) ?_))))
  refine RL.p rfl (RL.lenS Tryz.runUnderlying22 rfl rfl rfl rfl (RL.p rfl (RL.nil (NQ.seq ?_))))
  refine CW.cond rfl (fun hlt => ?_) (fun hlt => ?_)
  ·
    have hlt : a + 64 ≤ R.length := by simp at hlt; omega
    refine CW.skip (NQ.seq (CW.seq (CW.block (CW.regionD (Sq.of [0, 1, 2, 3, 4, 5, 6, 7]) [7] [7] [1, 2, 3, 4, 5] mixed (by kernel_rfl) ?_))))
    refine RL.loadN (vs := [_, _, _, _, _, _, _, _]) Tryz.isAgg545 Tryz.sizeOf545 rfl rfl rfl rfl (by first | (apply Rds.cel; (solve | (repeat (first | exact List.Mem.head _ | apply List.Mem.tail))); exact at_spec ⟨rfl, rfl, rfl, rfl, rfl, rfl, rfl, rfl, trivial⟩) | (apply Rds.celI; (solve | (repeat (first | exact List.Mem.head _ | apply List.Mem.tail))); exact at_spec ⟨rfl, rfl, rfl, rfl, rfl, rfl, rfl, rfl, trivial⟩) | assumption | (apply RdsI.rds; assumption)) ?_
    refine RL.p rfl (RL.p rfl (RL.p rfl (RL.bx rfl (wrapV_i64 (by omega) (by omega)) ?_)))
    refine RL.sliceP (lo := a) (hi := a + 64) (p := ⟨b, 0, none⟩) Tryz.runUnderlying22 Tryz.sizeOf5 rfl rfl rfl rfl rfl rfl (by omega) (by omega) (by omega) ?_
    rw [Nat.add_sub_cancel_left]
    refine RL.callv (block_any st ((R.drop a).take 64) ((⟨b, 0, none⟩ : Addr).add (a * 1)) (cp - a) (by rw [List.length_take, List.length_drop]; omega)) Tryz.call354 rfl rfl rfl rfl (by rw [← bytes_part]; exact Lend.subO (by repeat (first | exact List.Mem.head _ | apply List.Mem.tail)) (by omega) .nil) ?_
    refine RL.store (vs := [_, _, _, _, _, _, _, _]) Tryz.sizeOf545 rfl rfl rfl rfl rfl rfl rfl rfl rfl (by repeat (first | exact Upd.here | apply Upd.there)) ?_
    refine RL.nil (NQ.block (NQ.seq (CW.ok [2, 3, 4, 5] rfl (CW.rg (RL.p rfl (RL.bx rfl (wrapV_i64 (by omega) (by omega)) ?_))))))
    refine RL.p rfl (RL.nil ?_)
    have hge : 64 ≤ (R.drop a).length := by rw [List.length_drop]; omega
    exact NQ.round (g := (st, a)) (comp st ((R.drop a).take 64), a + 64) ⟨by rw [← h1, absorb_ge hge, List.drop_drop], by show (a + 64) % 64 = 0; omega, hlt⟩ (by show R.length - (a + 64) < R.length - a; omega) (.cons rfl (.cons rfl (.cons rfl (.cons rfl .nil)))) (fun _ h => h)
  ·
    have hae : a = R.length := by simp at hlt; omega
    have hS : st = (absorb iv R).1 := by rw [← h1, hae, List.drop_length, absorb_lt (by simp)]
    rw [← hS]
    clear hS h1
    refine CW.exit (XQ.seq (XQ.seq (XQ.hit (NQ.seq (CW.ok [2, 4] rfl (CW.seq (CW.region (ef := [1, 2]) (bk := [2]) (RL.buildA _ Tryz.zeroValue50 Tryz.runUnderlying50 Tryz.sizeOf5 rfl rfl rfl rfl rfl (RL.alloc Tryz.zeroValue50 rfl rfl rfl rfl rfl ?_)))))))))
    intro b3
    refine RL.storeX (cs := List.replicate 32 (U8 0#8)) (cs' := List.replicate 32 (U8 0#8)) (vs := List.replicate 32 (U8 0#8)) rfl Tryz.sizeOf50 rfl rfl rfl rfl rfl rfl rfl rfl (by repeat (first | exact Upd.here | apply Upd.there)) (by decide) ?_
    refine RL.nil (NQ.seq (CW.seq (CW.seq (CW.rg (RL.p rfl (RL.nil (NQ.seq (CW.block ?_))))))))
    refine CW.loop (γ := Nat) (fun i => i ≤ 8) (fun i => [(2, .pointer (some ⟨b1, 0, none⟩)), (4, .pointer (some ⟨b2, 0, none⟩)), (6, .pointer (some ⟨b3, 0, none⟩)), (7, .int .i64 (i : Int))])
      (fun _ => []) (fun i => [cel b3 (dcells st i 0) 50, cel b2 st.cells 545, cel b1 (List.replicate 32 (U8 0#8)) 50]) (fun i => 8 - i) 0 (by omega)
      (.cons rfl (.cons rfl (.cons rfl (.cons rfl .nil)))) (fun w h => h.rea (fun _ h => h) (by repeat (first | exact Rea.nil | (apply Rea.cons; (solve | (repeat (first | exact Del.here | apply Del.there))))))) ?_
    clear hlt
    intro i hi
    refine CW.seq (CW.seq (CW.rg (RL.p rfl (RL.p rfl (RL.nil (NQ.seq ?_))))))
    refine CW.cond rfl (fun hlt => ?_) (fun hlt => ?_)
    ·
      refine CW.skip (NQ.seq (CW.seq (CW.block (CW.seq (CW.rg (RL.p rfl ?_))))))
      have hlt : i < 8 := by simp at hlt; omega
      have g1 : st.cells[0 + i * 1]? = some (U32 (sget st i)) := by rw [Nat.zero_add, Nat.mul_one, sget_cells st _ hlt]
      refine RL.idxAAt (j := i) Tryz.runUnderlying545 Tryz.sizeOf90 rfl rfl rfl rfl rfl rfl hlt (RL.loadq Tryz.isAgg90 rfl rfl rfl rfl ?_)
      refine RL.p rfl (RL.nil (NQ.seq (CW.seq (CW.rg (RL.p rfl (RL.nil (NQ.seq (CW.block ?_))))))))
      refine CW.loop (γ := Nat) (fun c => c ≤ 4) (fun c => [(2, .pointer (some ⟨b1, 0, none⟩)), (4, .pointer (some ⟨b2, 0, none⟩)), (6, .pointer (some ⟨b3, 0, none⟩)), (7, .int .i64 (i : Int)), (8, U32 (sget st i >>> (8 * c))), (9, .int .i64 (3 - (c : Int)))])
        (fun _ => []) (fun c => [cel b3 (dcells st i c) 50, cel b2 st.cells 545, cel b1 (List.replicate 32 (U8 0#8)) 50]) (fun c => 4 - c) 0 (by omega)
        (.cons rfl (.cons rfl (.cons rfl (.cons rfl (.cons (by simp; rfl) (.cons rfl .nil)))))) (fun w h => h) ?_
      intro c hc
      refine CW.seq (CW.seq (CW.rg (RL.p rfl (RL.p rfl (RL.nil (NQ.seq ?_))))))
      refine CW.cond rfl (fun hcl => ?_) (fun hcl => ?_)
      ·
        refine CW.skip (NQ.seq (CW.seq (CW.block (CW.seq (CW.region (ef := [8]) (bk := [8]) (RL.p rfl (RL.bx rfl (wrapV_i64 (by omega) (by omega)) ?_)))))))
        refine RL.p rfl (RL.bx rfl (wrapV_i64 (by omega) (by omega)) ?_)
        refine RL.p rfl (RL.rem32 (256#32) rfl rfl rfl rfl rfl (by decide) ?_)
        refine RL.narrow Tryz.runUnderlying90 Tryz.runUnderlying5 rfl rfl rfl rfl ?_
        have hcl : c < 4 := by simp at hcl; omega
        refine RL.idxAAt (j := 4 * i + 3 - c) Tryz.runUnderlying50 Tryz.sizeOf5 rfl rfl rfl rfl rfl (by omega) (by omega) ?_
        refine RL.storeX (cs := dcells st i c) (cs' := dcells st i (c + 1)) (vs := [_]) (dcells_step st i c hlt hcl) Tryz.sizeOf5 rfl rfl rfl rfl rfl rfl rfl rfl (by repeat (first | exact Upd.here | apply Upd.there)) (by simp [dcells]; omega) ?_
        refine RL.nil (NQ.seq (CW.ok [2, 4, 6, 7, 8, 9] rfl (CW.rg (RL.p rfl (RL.quo32 (256#32) rfl rfl rfl rfl rfl (by decide) ?_)))))
        refine RL.p rfl (RL.nil (NQ.block (NQ.seq (CW.rg (RL.p rfl (RL.bx rfl (wrapV_i64 (by omega) (by omega)) ?_))))))
        refine RL.p rfl (RL.nil ?_)
        rw [quo_low]
        refine NQ.round (g := c) (c + 1) hcl (by omega) (.cons rfl (.cons rfl (.cons rfl (.cons rfl (.cons rfl (.cons (by rw [show (3 - ((c + 1 : Nat) : Int)) = 3 - (c : Int) - 1 by omega]; rfl) .nil)))))) (fun _ h => h)
      ·
        refine CW.exit (XQ.seq (XQ.seq (XQ.hit (NQ.block (NQ.seq (CW.rg (RL.p rfl (RL.bx rfl (wrapV_i64 (by omega) (by omega)) ?_))))))))
        refine RL.p rfl (RL.nil ?_)
        have hc4 : c = 4 := by simp at hcl; omega
        subst hc4
        refine NQ.round (g := i) (i + 1) hlt (by omega) (.cons rfl (.cons rfl (.cons rfl (.cons rfl .nil)))) (fun _ h => ?_)
        rw [← dcells_next]; exact h
    ·
      have hi8 : i = 8 := by simp at hlt; omega
      subst hi8
      rw [dcells_all]
      refine CW.exit (XQ.seq (XQ.seq (XQ.hit (NQ.seq (CW.seq (CW.region (ef := [1]) (bk := [1]) (RL.loadN (vs := bytes (dig st)) Tryz.isAgg50 (by rw [List.length_map, dig_length]; exact Tryz.sizeOf50) rfl rfl rfl rfl (Rds.all (by repeat (first | exact List.Mem.head _ | apply List.Mem.tail))) ?_)))))))
      refine RL.storeX (cs := List.replicate 32 (U8 0#8)) (cs' := bytes (dig st)) (vs := bytes (dig st)) (spl_all (by simp [dig_length])) (by rw [List.length_map, dig_length]; exact Tryz.sizeOf50) rfl rfl rfl rfl rfl rfl rfl (ones_map one8 _) (by repeat (first | exact Upd.here | apply Upd.there)) (by simp [dig_length]) ?_
      refine RL.nil (NQ.seq (CW.ok [2] rfl (CW.ret ?_)))
      exact RQ.post (resC rfl rfl Tryz.isAgg50 (vs := bytes (dig st)) (by rw [List.length_map, dig_length]; exact Tryz.sizeOf50) (Rds.all (by repeat (first | exact List.Mem.head _ | apply List.Mem.tail)))) (Split.none _) ⟨rfl, rfl, rfl⟩
theorem rof_n (p : Option Addr) (n cap : Nat) (l : List B8) (hl : l.length = n) (hn : n ≤ 1000000000) : Spc Tryz.prog 271 #[.slice p n cap] [sls p 1 n (bytes l)] [] (Is (.agg (bytes (sha l)).toArray)) := by
  subst hl; exact rof_any p cap l hn
end Go.Proofs.YthgjgeapfndeeaaGreatDoor
