import Derived.Test.YtbdnebedmdoehaaWide
import Derived.Test.YtbdnebedmdoehaaBitMath
namespace Go.Proofs.Ytbdnebedmdoehaa
open Go.PK

/-- Numbers of one's own, so many. -/
def IntsN (n : Nat) (l : List Int) : Value → List It → List It → Prop := fun v I' H' => ∃ ob cap, v = slO ob n cap ∧ I' = [] ∧ H' = [own ob cap 3 1 n (ints l)] ∧ (n = 0 ∨ ob.isSome = true)
theorem ints_snoc (l : List Int) (x : Int) : ints (l ++ [x]) = ints l ++ [.int .i64 x] := by simp [ints]
theorem tmod2 {x : Int} (h : 0 ≤ x) : x.tmod 2 = x % 2 := Int.tmod_eq_emod_of_nonneg h
theorem tdiv2 {x : Int} (h : 0 ≤ x) : x.tdiv 2 = x / 2 := Int.tdiv_eq_ediv_of_nonneg h
theorem u64_in {n : Int} (h : 0 ≤ n ∧ n < 18446744073709551616) : IntKind.u64.wrap n = n := by rw [IntKind.wrap_u64]; omega
theorem i64_in' {n : Int} (h : -9223372036854775808 ≤ n ∧ n ≤ 9223372036854775807) : IntKind.i64.wrap n = n := IntWalk.i64_in _ (by omega)
theorem bit_conv (z : Int) (n : Nat) (h : n ≤ 64) (hz : 0 ≤ z ∧ z < 18446744073709551616) : Value.int .i64 (IntKind.i64.wrap ((z / 2 ^ n).tmod 2)) = .int .i64 (z / 2 ^ n % 2) := by
  have h0 : 0 ≤ z / 2 ^ n := Int.ediv_nonneg hz.1 (Int.le_of_lt (two_pos n))
  rw [tmod2 h0, i64_in' (by omega)]
theorem div_conv (z : Int) (n : Nat) (hz : 0 ≤ z ∧ z < 18446744073709551616) : Value.int .u64 (IntKind.u64.wrap ((z / 2 ^ n).tdiv 2)) = .int .u64 (z / 2 ^ (n + 1)) := by
  have h0 : 0 ≤ z / 2 ^ n := Int.ediv_nonneg hz.1 (Int.le_of_lt (two_pos n))
  have h1 : z / 2 ^ n ≤ z := Int.ediv_le_self _ hz.1
  rw [tdiv2 h0, u64_in (by omega), half_pow]
theorem digits_any (z : Int) (h : -170141183460469231731687303715884105728 ≤ z ∧ z < 170141183460469231731687303715884105728) : Spc Try.prog 111 #[W z] [] [] (IntsN 128 (zbits 128 z)) := by
  unfold W
  have hlo : 0 ≤ z % 18446744073709551616 ∧ z % 18446744073709551616 < 18446744073709551616 := by omega
  have hhi : 0 ≤ z / 18446744073709551616 % 18446744073709551616 ∧ z / 18446744073709551616 % 18446744073709551616 < 18446744073709551616 := by omega
  have hb2 := zbits_two z
  generalize hl : z % 18446744073709551616 = lo at hlo hb2
  generalize hh : z / 18446744073709551616 % 18446744073709551616 = hi' at hhi hb2
  refine Spc.enter Try.func111 rfl rfl rfl (fun w0 hw0 => ?_)
  refine CW.seq (CW.region (ef := [0]) (bk := []) (RL.box rfl rfl rfl rfl rfl rfl ?_))
  intro b1
  refine RL.p rfl (RL.nil (NQ.seq (CW.seq (CW.region (ef := [0]) (bk := []) (RL.buildOwn [] Try.runUnderlying22 Try.sizeOf3 Try.zeroValue3 rfl rfl (by decide) (by decide) rfl (by decide) rfl rfl rfl rfl rfl rfl ?_)))))
  intro b2
  refine RL.p rfl (RL.nil (NQ.seq (CW.seq (CW.rg (RL.fieldAddr fa_202_1 rfl rfl rfl rfl (RL.loadq Try.isAgg31 rfl rfl rfl rfl ?_))))))
  refine RL.p rfl (RL.nil (NQ.seq (CW.seq (CW.seq (CW.rg (RL.p rfl (RL.nil (NQ.seq (CW.block ?_)))))))))
  refine CW.loop (γ := Nat × Option Nat × Nat) (fun g => g.1 ≤ 64 ∧ (g.1 = 0 ∨ g.2.1.isSome = true)) (fun g => [(1, .pointer (some ⟨b1, 0, none⟩)), (3, slO g.2.1 g.1 g.2.2), (4, .int .u64 (lo / 2 ^ g.1)), (5, .int .i64 (g.1 : Int))]) (fun _ => [])
    (fun g => [own g.2.1 g.2.2 3 1 g.1 (ints (zbits g.1 lo)), cel b1 [.int .i64 (z / 18446744073709551616), .int .u64 lo] 202]) (fun g => 64 - g.1) (0, some b2, 0) ⟨by simp, .inl rfl⟩
    (.cons rfl (.cons rfl (.cons (by simp; rfl) (.cons rfl .nil)))) (fun w h => h.rea (fun _ h => h) (by repeat (first | exact Rea.nil | (apply Rea.cons; (solve | (repeat (first | exact Del.here | apply Del.there))))))) ?_
  rintro ⟨i, ob, cp⟩ ⟨hi, hs⟩
  dsimp only at hi hs ⊢
  refine CW.seq (CW.seq (CW.rg (RL.p rfl (RL.p rfl (RL.nil (NQ.seq ?_))))))
  refine CW.cond rfl (fun hlt => ?_) (fun hlt => ?_)
  ·
    have hlt : i < 64 := by simp at hlt; omega
    have hlt0 := hlo
    refine CW.skip (NQ.seq (CW.seq (CW.block (CW.seq (CW.region (ef := [4, 5]) (bk := [5]) (RL.p rfl (RL.p rfl (RL.rem rfl rfl rfl rfl rfl (by decide) ?_))))))))
    refine RL.conv Try.runUnderlying31 Try.runUnderlying3 rfl rfl rfl rfl (RL.cast (d := 18) rfl (bit_conv lo i hi hlt0) ?_)
    refine RL.buildOwn [_] Try.runUnderlying22 Try.sizeOf3 Try.zeroValue3 rfl rfl (by decide) (by decide) rfl (by decide) rfl rfl rfl rfl rfl rfl ?_
    intro b3
    refine RL.appendq el_22 rfl rfl rfl rfl rfl rfl rfl ?_
    intro ob1 cap1 ho1
    refine RL.p rfl (RL.nil (NQ.seq (CW.ok [1, 3, 4, 5] rfl (CW.rg (RL.p rfl (RL.quoX (v' := .int .u64 (lo / 2 ^ (i + 1))) rfl rfl rfl rfl rfl (by decide) (div_conv lo i hlt0) ?_))))))
    refine RL.p rfl (RL.nil (NQ.block (NQ.seq (CW.rg (RL.p rfl (RL.bx rfl (wrapV_i64 (by omega) (by omega)) ?_))))))
    refine RL.p rfl (RL.nil ?_)
    refine NQ.round (g := (i, ob, cp)) (i + 1, ob1, cap1) ⟨hlt, by simpa using ho1⟩ (by show 64 - (i + 1) < 64 - i; omega) (.cons rfl (.cons rfl (.cons rfl (.cons rfl .nil)))) (fun w h => ?_)
    dsimp only
    rw [zbits_snoc, ints_snoc]
    exact h.rea (fun _ h => h) (by repeat (first | exact Rea.nil | (apply Rea.cons; (solve | (repeat (first | exact Del.here | apply Del.there))))))
  ·
    have hin : i = 64 := by simp at hlt; omega
    subst hin
    refine CW.exit (XQ.seq (XQ.seq (XQ.hit (NQ.seq (CW.seq (CW.rg (RL.fieldAddr fa_202_0 rfl rfl rfl rfl (RL.loadq Try.isAgg2 rfl rfl rfl rfl ?_))))))))
    refine RL.conv Try.runUnderlying2 Try.runUnderlying31 rfl rfl rfl rfl (RL.cast (d := 25) (v' := .int .u64 (hi' / 2 ^ 0)) rfl (by rw [IntKind.wrap_u64, hh]; simp) ?_)
    refine RL.p rfl (RL.nil (NQ.seq (CW.ok [3, 6] rfl (CW.seq (CW.seq (CW.rg (RL.p rfl (RL.nil (NQ.seq (CW.block ?_))))))))))
    refine CW.loop (γ := Nat × Option Nat × Nat) (fun g => g.1 ≤ 64 ∧ g.2.1.isSome = true) (fun g => [(3, slO g.2.1 (64 + g.1) g.2.2), (6, .int .u64 (hi' / 2 ^ g.1)), (7, .int .i64 (g.1 : Int))]) (fun _ => [])
      (fun g => [own g.2.1 g.2.2 3 1 (64 + g.1) (ints (zbits 64 lo ++ zbits g.1 hi'))]) (fun g => 64 - g.1) (0, ob, cp) ⟨by simp, ?_⟩
      (.cons rfl (.cons rfl (.cons rfl .nil))) (fun w h => by rw [show zbits 64 lo ++ zbits (0, ob, cp).1 hi' = zbits 64 lo by simp [zbits]]; exact h.rea (fun _ h => h) (by repeat (first | exact Rea.nil | (apply Rea.cons; (solve | (repeat (first | exact Del.here | apply Del.there))))))) ?_
    · rcases hs with hs | hs
      · cases hs
      · exact hs
    rintro ⟨i, ob, cp⟩ ⟨hi, hs⟩
    dsimp only at hi hs ⊢
    refine CW.seq (CW.seq (CW.rg (RL.p rfl (RL.p rfl (RL.nil (NQ.seq ?_))))))
    refine CW.cond rfl (fun hlt => ?_) (fun hlt => ?_)
    ·
      have hlt : i < 64 := by simp at hlt; omega
      have hlt0 := hhi
      refine CW.skip (NQ.seq (CW.seq (CW.block (CW.seq (CW.region (ef := [4, 5]) (bk := [5]) (RL.p rfl (RL.p rfl (RL.rem rfl rfl rfl rfl rfl (by decide) ?_))))))))
      refine RL.conv Try.runUnderlying31 Try.runUnderlying3 rfl rfl rfl rfl (RL.cast (d := 33) rfl (bit_conv hi' i hi hlt0) ?_)
      refine RL.buildOwn [_] Try.runUnderlying22 Try.sizeOf3 Try.zeroValue3 rfl rfl (by decide) (by decide) rfl (by decide) rfl rfl rfl rfl rfl rfl ?_
      intro b3
      refine RL.appendq el_22 rfl rfl rfl rfl rfl rfl rfl ?_
      intro ob1 cap1 ho1
      refine RL.p rfl (RL.nil (NQ.seq (CW.ok [3, 6, 7] rfl (CW.rg (RL.p rfl (RL.quoX (v' := .int .u64 (hi' / 2 ^ (i + 1))) rfl rfl rfl rfl rfl (by decide) (div_conv hi' i hlt0) ?_))))))
      refine RL.p rfl (RL.nil (NQ.block (NQ.seq (CW.rg (RL.p rfl (RL.bx rfl (wrapV_i64 (by omega) (by omega)) ?_))))))
      refine RL.p rfl (RL.nil ?_)
      refine NQ.round (g := (i, ob, cp)) (i + 1, ob1, cap1) ⟨hlt, by simpa using ho1⟩ (by show 64 - (i + 1) < 64 - i; omega) (.cons rfl (.cons rfl (.cons rfl .nil))) (fun w h => ?_)
      dsimp only
      rw [zbits_snoc i, ← List.append_assoc, ints_snoc]
      exact h.rea (fun _ h => h) (by repeat (first | exact Rea.nil | (apply Rea.cons; (solve | (repeat (first | exact Del.here | apply Del.there))))))
    ·
      refine CW.exit (XQ.seq (XQ.seq (XQ.hit (NQ.seq (CW.seq (CW.rg (RL.p rfl (RL.p rfl (RL.nil (NQ.seq (CW.ok [2] rfl (CW.ret ?_))))))))))))
      have hin : i = 64 := by simp at hlt; omega
      subst hin
      rw [hb2]
      exact RQ.post (res1 rfl rfl) (.keep .nil) ⟨ob, cp, rfl, rfl, rfl, .inr hs⟩
/-- What is made of bits. -/
theorem add_bit (z : Int) (i : Nat) (h : i < 64) : Value.int .u64 (IntKind.u64.wrap (z % 2 ^ i + IntKind.u64.wrap (IntKind.u64.wrap (z / 2 ^ i % 2) * IntKind.u64.wrap (2 ^ i)))) = .int .u64 (z % 2 ^ (i + 1)) := by
  have h1 := mod_bd z i (by omega)
  have h2 := mod_bd z (i + 1) (by omega)
  have h3 := mod_pow z i
  have h4 := bit_bd z i
  have h5 : (2 : Int) ^ i < 18446744073709551616 := by
    have := Nat.pow_lt_pow_right (a := 2) (by decide) h
    have h6 : (2 : Int) ^ i < 2 ^ 64 := by exact_mod_cast this
    exact h6
  have h7 := two_pos i
  have e1 : IntKind.u64.wrap (z / 2 ^ i % 2) = z / 2 ^ i % 2 := u64_in (by omega)
  have e2 : IntKind.u64.wrap (2 ^ i) = 2 ^ i := u64_in (by omega)
  rw [e1, e2]
  generalize hq : z / 2 ^ i % 2 * 2 ^ i = q at *
  have h8 : 0 ≤ q := by rw [← hq]; exact Int.mul_nonneg h4.1 (Int.le_of_lt h7)
  rw [u64_in (n := q) (by omega), u64_in (by omega), h3]
theorem pow_step (i : Nat) : Value.int .u64 (IntKind.u64.wrap (2 * IntKind.u64.wrap (2 ^ i))) = .int .u64 (IntKind.u64.wrap (2 ^ (i + 1))) := by
  rw [IntKind.wrap_u64, IntKind.wrap_u64, IntKind.wrap_u64, Int.pow_succ]
  generalize (2 : Int) ^ i = q
  congr 1; omega
theorem ints_get {l : List Int} {i : Nat} {x : Int} (h : l[i]? = some x) : (ints l)[i * 1]? = some (.int .i64 x) := by simp [ints, h]
theorem number_any (p : Option Addr) (c : Nat) (z : Int) (h : -170141183460469231731687303715884105728 ≤ z ∧ z < 170141183460469231731687303715884105728) : Spc Try.prog 138 #[.slice p 128 c] [sls p 1 128 (ints (zbits 128 z))] [] (Is (W z)) := by
  refine Spc.enter Try.func138 rfl rfl rfl (fun w0 hw0 => ?_)
  refine CW.seq (CW.region (ef := [0]) (bk := []) (RL.alloc Try.zeroValue202 rfl rfl rfl rfl rfl ?_))
  intro b1
  refine RL.nil (NQ.seq (CW.seq (CW.rg (RL.p rfl (RL.p rfl (RL.nil (NQ.seq (CW.seq (CW.rg (RL.p rfl (RL.nil (NQ.seq (CW.seq ?_)))))))))))))
  refine CW.seq ?_
  refine CW.fact (p := p = none → (128 : Nat) = 0) (fun w hC e => sls_nil (hC.s.i _ (List.Mem.head _)) e) (fun hpp => ?_)
  obtain ⟨a, rfl⟩ : ∃ a, p = some a := by
    cases p with
    | none => exact absurd (hpp rfl) (by decide)
    | some a => exact ⟨a, rfl⟩
  clear hpp
  refine CW.rg (RL.p rfl (RL.nil (NQ.seq (CW.block ?_))))
  refine CW.loop (γ := Nat) (fun i => i ≤ 64) (fun i => [(0, .slice (some a) 128 c), (2, .pointer (some ⟨b1, 0, none⟩)), (3, .int .u64 (z % 2 ^ i)), (4, .int .u64 0), (5, .int .u64 (IntKind.u64.wrap (2 ^ i))), (6, .int .i64 (i : Int))]) (fun _ => [sls (some a) 1 128 (ints (zbits 128 z))])
    (fun _ => [cel b1 [.int .i64 0, .int .u64 0] 202]) (fun i => 64 - i) 0 (by omega)
    (.cons rfl (.cons rfl (.cons (by simp; rfl) (.cons rfl (.cons rfl (.cons rfl .nil)))))) (fun w h => h) ?_
  rintro i hi
  refine CW.seq (CW.seq (CW.rg (RL.p rfl (RL.p rfl (RL.p rfl ?_)))))
  apply RL.andB (d := 10) (dp := 15) (l' := (Sq.of [])) rfl (sK [0, 2, 3, 4, 5, 6] rfl)
  ·
    intro hb3 K3
    refine RL.p rfl (RL.p rfl (RL.lenS Try.runUnderlying22 rfl rfl rfl rfl (RL.p rfl (RL.p rfl ?_))))
    exact K3 _ (.cons rfl (sK [0, 2, 3, 4, 5, 6] rfl))
  ·
    intro hb3 K3
    refine RL.p rfl (RL.p rfl (RL.p rfl (RL.p rfl (RL.p rfl ?_))))
    exact K3 _ (.cons rfl (sK [0, 2, 3, 4, 5, 6] rfl))
  refine RL.nil (NQ.seq ?_)
  refine CW.cond rfl (fun hlt => ?_) (fun hlt => ?_)
  ·
    have hlt : i < 64 := by simp at hlt; omega
    have hg : (zbits 128 z)[i]? = some (z / 2 ^ i % 2) := zbits_get (by omega)
    refine CW.skip (NQ.seq (CW.seq (CW.block (CW.seq (CW.rg (RL.p rfl (RL.p rfl (RL.p rfl (RL.idx (j := i) Try.runUnderlying22 Try.sizeOf3 rfl rfl rfl rfl rfl rfl (by omega) ?_)))))))))
    refine RL.load Try.isAgg3 rfl rfl rfl rfl (Rd.getS (List.Mem.head _) (ints_get hg)) (RL.conv Try.runUnderlying3 Try.runUnderlying31 rfl rfl rfl rfl (RL.p rfl (RL.p rfl (RL.p rfl (RL.cast (d := 26) rfl (add_bit z i hlt) ?_)))))
    refine RL.p rfl (RL.nil (NQ.seq (CW.ok [0, 2, 3, 4, 5, 6] rfl (CW.rg (RL.p rfl (RL.p rfl (RL.cast (d := 28) rfl (pow_step i) ?_)))))))
    refine RL.p rfl (RL.nil (NQ.block (NQ.seq (CW.rg (RL.p rfl (RL.bx rfl (wrapV_i64 (by omega) (by omega)) ?_))))))
    refine RL.p rfl (RL.nil ?_)
    refine NQ.round (g := i) (i + 1) hlt (by omega) (.cons rfl (.cons rfl (.cons rfl (.cons rfl (.cons rfl (.cons rfl .nil)))))) (fun w h => h)
  ·
    have hin : i = 64 := by simp at hlt; omega
    subst hin
    refine CW.exit (XQ.seq (XQ.seq (XQ.hit (NQ.seq (CW.seq (CW.rg (RL.p rfl (RL.nil (NQ.seq (CW.seq (CW.seq (CW.rg (RL.p rfl ?_)))))))))))))
    refine RL.nil (NQ.seq (CW.block ?_))
    refine CW.loop (γ := Nat) (fun i => i ≤ 64) (fun i => [(0, .slice (some a) 128 c), (2, .pointer (some ⟨b1, 0, none⟩)), (3, .int .u64 (z % 2 ^ 64)), (4, .int .u64 (z / 2 ^ 64 % 2 ^ i)), (5, .int .u64 (IntKind.u64.wrap (2 ^ i))), (7, .int .i64 ((64 + i : Nat) : Int))]) (fun _ => [sls (some a) 1 128 (ints (zbits 128 z))])
      (fun _ => [cel b1 [.int .i64 0, .int .u64 0] 202]) (fun i => 64 - i) 0 (by omega)
      (.cons rfl (.cons rfl (.cons rfl (.cons (by simp; rfl) (.cons rfl (.cons rfl .nil)))))) (fun w h => h) ?_
    rintro i hi
    refine CW.seq (CW.seq (CW.rg (RL.p rfl (RL.p rfl (RL.p rfl ?_)))))
    apply RL.andB (d := 31) (dp := 36) (l' := (Sq.of [])) rfl (sK [0, 2, 3, 4, 5, 7] rfl)
    ·
      intro hb3 K3
      refine RL.p rfl (RL.p rfl (RL.lenS Try.runUnderlying22 rfl rfl rfl rfl (RL.p rfl (RL.p rfl ?_))))
      exact K3 _ (.cons rfl (sK [0, 2, 3, 4, 5, 7] rfl))
    ·
      intro hb3 K3
      refine RL.p rfl (RL.p rfl (RL.p rfl (RL.p rfl (RL.p rfl ?_))))
      exact K3 _ (.cons rfl (sK [0, 2, 3, 4, 5, 7] rfl))
    refine RL.nil (NQ.seq ?_)
    refine CW.cond rfl (fun hlt => ?_) (fun hlt => ?_)
    ·
      have hlt : i < 64 := by simp at hlt; omega
      have hg : (zbits 128 z)[64 + i]? = some (z / 2 ^ 64 / 2 ^ i % 2) := by
        rw [zbits_get (by omega), Int.ediv_ediv_of_nonneg (Int.le_of_lt (two_pos 64)), ← Int.pow_add]
      refine CW.skip (NQ.seq (CW.seq (CW.block (CW.seq (CW.rg (RL.p rfl (RL.p rfl (RL.p rfl (RL.idx (j := 64 + i) Try.runUnderlying22 Try.sizeOf3 rfl rfl rfl rfl rfl rfl (by omega) ?_)))))))))
      refine RL.load Try.isAgg3 rfl rfl rfl rfl (Rd.getS (List.Mem.head _) (ints_get hg)) (RL.conv Try.runUnderlying3 Try.runUnderlying31 rfl rfl rfl rfl (RL.p rfl (RL.p rfl (RL.p rfl (RL.cast (d := 47) rfl (add_bit (z / 2 ^ 64) i hlt) ?_)))))
      refine RL.p rfl (RL.nil (NQ.seq (CW.ok [0, 2, 3, 4, 5, 7] rfl (CW.rg (RL.p rfl (RL.p rfl (RL.cast (d := 49) rfl (pow_step i) ?_)))))))
      refine RL.p rfl (RL.nil (NQ.block (NQ.seq (CW.rg (RL.p rfl (RL.bx rfl (wrapV_i64 (by omega) (by omega)) ?_))))))
      refine RL.p rfl (RL.nil ?_)
      refine NQ.round (g := i) (i + 1) hlt (by omega) (.cons rfl (.cons rfl (.cons rfl (.cons rfl (.cons rfl (.cons rfl .nil)))))) (fun w h => h)
    ·
      have hin : i = 64 := by simp at hlt; omega
      subst hin
      refine CW.exit (XQ.seq (XQ.seq (XQ.hit (NQ.seq (CW.seq (CW.region (ef := [4]) (bk := [4]) (RL.p rfl (RL.conv Try.runUnderlying31 Try.runUnderlying2 rfl rfl rfl rfl ?_))))))))
      refine RL.cast (d := 51) (v' := .int .i64 (z / 18446744073709551616)) rfl (by
        rw [show (2 : Int) ^ 64 = 18446744073709551616 from rfl, IntKind.wrap_i64]; congr 1; omega) ?_
      refine RL.p rfl (RL.buildS [_, _] Try.zeroValue202 pl_202 rfl rfl rfl rfl rfl (RL.store (vs := [_, _]) Try.sizeOf202 rfl rfl rfl rfl rfl rfl rfl rfl rfl (by repeat (first | exact Upd.here | apply Upd.there)) ?_))
      refine RL.nil (NQ.seq (CW.ok [2] rfl (CW.ret ?_)))
      exact RQ.post (resC rfl rfl Try.isAgg202 (vs := [_, _]) Try.sizeOf202 (Rds.cel (List.Mem.head _) (at_spec ⟨rfl, rfl, trivial⟩))) (Split.none _) ⟨rfl, rfl, rfl⟩
end Go.Proofs.Ytbdnebedmdoehaa
