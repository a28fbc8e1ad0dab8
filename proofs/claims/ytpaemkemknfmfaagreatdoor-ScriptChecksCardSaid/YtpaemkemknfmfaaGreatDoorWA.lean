import Derived.Test.YtpaemkemknfmfaaGreatDoorGX
import Derived.Test.YtpaemkemknfmfaaGreatDoorGA
import Derived.Test.YtpaemkemknfmfaaGreatDoorFacts
import Derived.Test.YtpaemkemknfmfaaGreatDoorBase0
import Derived.WideLaws
set_option linter.unusedVariables false
set_option linter.unusedSimpArgs false
namespace Go.Proofs.YtpaemkemknfmfaaGreatDoor
open Go.PK
/-! ### A line's words -/
abbrev strV (a : Tx) : Value := .string (txt a)
/-- The words that are not taken yet. -/
def wsl (p : Addr) (n k : Nat) : Value := .slice (some (p.add (min k (n - 1)))) (n - k) (n - k)
abbrev wsI (p : Addr) (n : Nat) (ws : List Tx) : It := sls (some p) 1 n (ws.map strV)
abbrev wdI (b : Nat) (p : Addr) (n : Nat) (x : Wds) : It := cel b [wsl p n x.1, .bool x.2] 56
theorem wsl_step (p : Addr) {n k : Nat} (h : k < n) : (Value.slice (if n - k = 1 then some (p.add (min k (n - 1))) else (some (p.add (min k (n - 1)))).map (·.add (1 * 1))) (n - k - 1) (n - k - 1)) = wsl p n (min (k + 1) n) := by
  have h2 : min (k + 1) n = k + 1 := by omega
  rw [wsl, h2, Nat.sub_sub]
  by_cases h1 : n - k = 1
  · rw [if_pos h1, show min k (n - 1) = min (k + 1) (n - 1) by omega]
  · rw [if_neg h1, Option.map_some, PK.add_add, show min k (n - 1) + 1 * 1 = min (k + 1) (n - 1) by omega]
/-- What a word gives, and what is left. -/
def WdR (b : Nat) (p : Addr) (n : Nat) (v : Value) (x : Wds) : Value → List It → List It → Prop := fun v' I' H' => v' = v ∧ I' = [] ∧ H' = [wdI b p n x]
/-- Words are not too long. -/
def WLen (ws : List Tx) : Prop := ∀ a ∈ ws, a.length ≤ 1000000
theorem WLen.nx {ws : List Tx} (h : WLen ws) (x : Wds) : (nxW ws x).length ≤ 1000000 := by
  by_cases hx : x.1 < ws.length
  · rw [nxW, List.getD_eq_getElem?_getD, List.getElem?_eq_getElem hx]; exact h _ (List.getElem_mem hx)
  · rw [nxW_nil hx]; exact Nat.zero_le _
theorem wnext_any (b : Nat) (p : Addr) (n : Nat) (ws : List Tx) (x : Wds) (hn : ws.length = n) (h1 : 1 ≤ n) (hx : x.1 ≤ n) (hb : n ≤ 1000000) :
    Spc Tryz.prog 18 #[.pointer (some ⟨b, 0, none⟩)] [wsI p n ws] [wdI b p n x] (WdR b p n (strV (nxW ws x)) (tlW ws x)) := by
  obtain ⟨k, g⟩ := x
  have hx : k ≤ n := hx
  show Spc _ _ _ [wsI p n ws] [cel b [.slice (some (p.add (min k (n - 1)))) (n - k) (n - k), .bool g] 56] _
  refine Spc.enter Tryz.func18 rfl rfl rfl (fun w0 hw0 => ?_)
  refine CW.seq (CW.rg (RL.p rfl (RL.nil (NQ.seq (CW.seq (CW.seq (CW.rg (RL.p rfl (RL.p rfl (RL.fieldAddr fa_56_0 rfl rfl rfl rfl (RL.loadq Tryz.isAgg27 rfl rfl rfl rfl ?_)))))))))))
  refine RL.lenS Tryz.runUnderlying27 rfl rfl rfl rfl (RL.p rfl (RL.nil (NQ.seq ?_)))
  refine CW.cond rfl (fun h => ?_) (fun h => ?_)
  ·
    refine CW.seq (CW.region (ef := [3]) (bk := [3]) (RL.p rfl (RL.p rfl (RL.fieldAddr fa_56_1 rfl rfl rfl rfl (RL.store (vs := [_]) Tryz.sizeOf4 rfl rfl rfl rfl rfl rfl rfl rfl rfl (by repeat (first | exact Upd.here | apply Upd.there)) ?_)))))
    refine RL.nil (NQ.seq (CW.ok [0] rfl (CW.seq (CW.rg (RL.p rfl (RL.nil (NQ.seq (CW.ret (RQ.seq ?_)))))))))
    have h' : ¬ k < ws.length := by simp at h; omega
    refine RQ.post (res1 rfl rfl) (.keep .nil) ⟨?_, rfl, ?_⟩
    · rw [nxW_nil h']; rfl
    · rw [tlW, wdI, wsl, hn, show min (k + 1) n = k by omega]
      simp only [show decide (k < n) = false by simp; omega, Bool.and_false]
      rfl
  ·
    have h' : k < n := by simp at h; omega
    have hv : (ws.map strV)[min k (n - 1) + 0 * 1]? = some (strV (nxW ws (k, g))) := by
      rw [show min k (n - 1) + 0 * 1 = k by omega, List.getElem?_map, List.getElem?_eq_getElem (by omega), nxW, List.getD_eq_getElem?_getD, List.getElem?_eq_getElem (by omega)]; rfl
    refine CW.skip (NQ.seq (CW.ok [0] rfl (CW.seq (CW.rg (RL.p rfl (RL.p rfl (RL.fieldAddr fa_56_0 rfl rfl rfl rfl (RL.loadq Tryz.isAgg27 rfl rfl rfl rfl ?_))))))))
    refine RL.idxS (j := 0) Tryz.runUnderlying27 Tryz.sizeOf9 rfl rfl rfl rfl rfl rfl (by omega) ?_
    refine RL.load Tryz.isAgg9 rfl rfl rfl rfl (Rd.getS (by repeat (first | exact List.Mem.head _ | apply List.Mem.tail)) hv) ?_
    refine RL.p rfl (RL.nil (NQ.seq (CW.ok [0, 3] rfl (CW.seq (CW.region (ef := [8]) (bk := [8]) (RL.p rfl (RL.p rfl (RL.p rfl (RL.fieldAddr fa_56_0 rfl rfl rfl rfl (RL.loadq Tryz.isAgg27 rfl rfl rfl rfl ?_))))))))))
    refine RL.slice (lo := 1) (hi := n - k) Tryz.runUnderlying27 Tryz.sizeOf9 rfl rfl rfl rfl rfl rfl (by omega) (by omega) ?_
    rw [wsl_step p h']
    refine RL.p rfl (RL.fieldAddr fa_56_0 rfl rfl rfl rfl (RL.store (vs := [_]) Tryz.sizeOf27 rfl rfl rfl rfl rfl rfl rfl rfl rfl (by repeat (first | exact Upd.here | apply Upd.there)) ?_))
    refine RL.nil (NQ.seq (CW.ok [3] rfl (CW.seq (CW.rg (RL.p rfl (RL.p rfl (RL.nil (NQ.seq (CW.ret ?_)))))))))
    refine RQ.post (res1 rfl rfl) (.keep .nil) ⟨rfl, rfl, ?_⟩
    rw [tlW, wdI, hn]
    simp only [show decide (k < n) = true by simp; omega, Bool.and_true]
    rfl
end Go.Proofs.YtpaemkemknfmfaaGreatDoor

namespace Go.Proofs.YtpaemkemknfmfaaGreatDoor
open Go.PK Go.RowKit Go.Shelf
/-! ### Numbers -/
theorem eql_no (x : Operand) (w : World) : (do eqGuard .eql 123 x (.const .nilIface) .nilIface .nilIface; binOp .eql 123 .nilIface .nilIface : Sem Value).run Tryz.prog w = .ok (.bool true) w := by
  have h : (eqGuard .eql 123 x (.const .nilIface) .nilIface .nilIface).run Tryz.prog w = .ok () w := by simp [eqGuard]
  rw [Sem.run_bind, h, Result.andThen_ok]
  exact run_eql_nil_nil w 123 (by kernel_rfl)
theorem eql_er (x : Operand) (t : TypeId) (q : Value) (w : World) : (do eqGuard .eql 123 x (.const .nilIface) (.iface t q) .nilIface; binOp .eql 123 (.iface t q) .nilIface : Sem Value).run Tryz.prog w = .ok (.bool false) w := by
  have h : (eqGuard .eql 123 x (.const .nilIface) (.iface t q) .nilIface).run Tryz.prog w = .ok () w := by simp [eqGuard]
  rw [Sem.run_bind, h, Result.andThen_ok]
  exact run_eql_held_nil w 123 t q (by kernel_rfl)
theorem uOk_eq (m : Nat) (s : Tx) : uOk m s = (puB s && (decide ((bareV s : Int) ≤ (m : Int)) && (decT (bareV s) == s))) := by
  rw [uOk]
  cases h : bareT s with
  | none =>
    have := bare_isSome s
    rw [h] at this
    have this : false = (puB s && (decT (bareV s) == s)) := this
    show false = _
    cases hp : puB s with
    | false => rfl
    | true => rw [hp] at this; rw [← show false = (decT (bareV s) == s) from this, Bool.and_false, Bool.and_false]
  | some n =>
    obtain ⟨e, hp⟩ := bareV_of h
    have := (decT_bareT h).1
    rw [hp, e, this]
    show decide (n ≤ m) = _
    rw [beq_self_eq_true, Bool.and_true, Bool.true_and, Bool.eq_iff_iff]
    simp
theorem sOk_eq (s : Tx) : sOk s = (piB s && (itoT (numV s) == s)) := num_isSome s
theorem snumber_any (s : Tx) (m : Nat) (hs : s.length ≤ 1000000) :
    Spc Tryz.prog 32 #[strV s, .int .u64 (m : Int)] [gvI] [] (Is (.tuple #[.int .u64 (bareV s), .bool (uOk m s)])) := by
  rw [uOk_eq]
  refine Spc.enter Tryz.func32 rfl rfl rfl (fun w0 hw0 => ?_)
  refine CW.seq (CW.rg (RL.p rfl (RL.p rfl (RL.nil (NQ.seq (CW.seq (CW.region (ef := [1]) (bk := [1]) (RL.p rfl (RL.callq (pu_any s (by omega)) Tryz.call64 rfl rfl rfl rfl rfl (.inr rfl) ?_)))))))))
  rintro _ _ _ ⟨er, rfl, her, rfl, rfl⟩
  refine RL.p rfl (RL.p rfl (RL.p rfl (RL.p rfl (RL.p rfl (RL.nil (NQ.seq (CW.ok [0, 1, 6, 7] rfl (CW.seq (CW.region (ef := [10]) (bk := []) (RL.p rfl (RL.p rfl ?_)))))))))))
  rcases her with ⟨hok, rfl⟩ | ⟨hok, t, q, rfl⟩
  · rw [hok]
    refine RL.cmp rfl rfl rfl rfl rfl (fun w => eql_no _ w) ?_
    refine RL.p rfl (RL.cast (d := 16) (v' := .bool true) rfl (rfl) ?_)
    refine RL.p rfl (RL.p rfl (RL.p rfl (RL.p rfl (RL.p rfl ?_))))
    refine RL.part (d := 21) rfl (fun hm => ?_) (fun hm => ?_)
    · have hm' : decide ((bareV s : Int) ≤ (m : Int)) = true := hm
      rw [hm']
      refine RL.p rfl (RL.callvq (fmtu_any (bareV s) puB_bd) Tryz.call65 rfl rfl rfl rfl ?_)
      refine RL.p rfl (RL.cmp rfl rfl rfl rfl rfl (fun w => eql_txt _ _ w) ?_)
      refine RL.p rfl (RL.p rfl (RL.p rfl (RL.nil (NQ.seq (CW.ok [4, 5] rfl (CW.ret ?_))))))
      exact RQ.post (res2 rfl rfl rfl) (Split.none _) ⟨rfl, rfl, rfl⟩
    ·
      refine RL.p rfl (RL.p rfl (RL.p rfl (RL.p rfl (RL.p rfl (RL.p rfl (RL.p rfl (RL.nil (NQ.seq (CW.ok [4, 5] rfl (CW.ret ?_))))))))))
      have hm' : decide ((bareV s : Int) ≤ (m : Int)) = false := hm
      rw [hm']
      exact RQ.post (res2 rfl rfl rfl) (Split.none _) ⟨rfl, rfl, rfl⟩
  · rw [hok]
    refine RL.cmp rfl rfl rfl rfl rfl (fun w => eql_er _ t _ w) ?_
    refine RL.p rfl (RL.cast (d := 16) (v' := .bool false) rfl (rfl) ?_)
    refine RL.p rfl (RL.p rfl (RL.p rfl (RL.p rfl (RL.p rfl (RL.p rfl (RL.p rfl (RL.p rfl (RL.p rfl (RL.p rfl (RL.p rfl (RL.p rfl (RL.nil (NQ.seq ?_)))))))))))))
    refine CW.ok [4, 5] rfl (CW.ret ?_)
    exact RQ.post (res2 rfl rfl rfl) (Split.none _) ⟨rfl, rfl, rfl⟩
/-! ### Numbers with a sign -/
noncomputable def v32 (s : Tx) : Int := match Lib.parseIntB 32 (s.map UInt8.ofBitVec) with
  | .ok v => v
  | .range => Lib.intSat 32 (s.map UInt8.ofBitVec)
  | _ => 0
def p32B (s : Tx) : Bool := match Lib.parseIntB 32 (s.map UInt8.ofBitVec) with
  | .ok _ => true
  | _ => false
theorem puM_le {M : Nat} : ∀ (l : List UInt8) (m n : Nat), Lib.parseUintM M m l = .ok n → m ≤ n
  | [], m, n, h => by simp [Lib.parseUintM] at h; omega
  | c :: r, m, n, h => by
    rw [Lib.parseUintM] at h
    split at h
    · split at h
      · cases h
      · split at h
        · cases h
        · have := puM_le r _ n h; omega
    · cases h
theorem puM_small {M K : Nat} : ∀ (l : List UInt8) (m n : Nat), Lib.parseUintM M m l = .ok n → n ≤ K → Lib.parseUintM K m l = .ok n
  | [], m, n, h, _ => h
  | c :: r, m, n, h, hn => by
    rw [Lib.parseUintM] at h ⊢
    split at h
    · next hd =>
      rw [if_pos hd]
      split at h
      · cases h
      · next h1 =>
        rw [if_neg h1]
        split at h
        · cases h
        · have := puM_le r _ n h
          rw [if_neg (by omega)]
          exact puM_small r _ n h hn
    · cases h
theorem pi_small {l : List UInt8} {v : Int} (h : Lib.parseIntB 64 l = .ok v) (h1 : -2147483648 ≤ v) (h2 : v ≤ 2147483647) : Lib.parseIntB 32 l = .ok v := by
  cases l with
  | nil => cases h
  | cons c r =>
    simp only [Lib.parseIntB] at h ⊢
    generalize (if c.toNat = 43 ∨ c.toNat = 45 then r else c :: r) = q at h ⊢
    cases hq : Lib.parseUintB 64 q with
    | ok u =>
      rw [hq] at h
      simp only at h
      have hu : u ≤ 2147483648 := by
        split at h
        · cases h
        · split at h
          · cases h
          · have h := Lib.NumEnd.ok.inj h
            split at h <;> omega
      have h32 : Lib.parseUintB 32 q = .ok u := by
        unfold Lib.parseUintB at hq ⊢
        split at hq
        · cases hq
        · next hne => rw [if_neg hne]; exact puM_small _ _ _ hq (by omega)
      rw [h32]
      simp only
      split at h
      · cases h
      · split at h
        · cases h
        · have h3 := Lib.NumEnd.ok.inj h
          by_cases hc : c.toNat = 45
          · rw [if_pos hc] at h3
            rw [if_neg (by omega), if_neg (by omega), if_pos hc, h3]
          · rw [if_neg hc] at h3
            rw [if_neg (by omega), if_neg (by omega), if_neg hc, h3]
    | _ => rw [hq] at h; cases h
theorem p32_bd {s : Tx} (h : p32B s = true) : -2147483648 ≤ v32 s ∧ v32 s ≤ 2147483647 := by
  unfold p32B at h
  split at h
  · next v e =>
    rw [v32, e]
    have := Lib.parseIntB_bounds e
    simp only [Nat.add_one_sub_one] at this
    show -2147483648 ≤ v ∧ v ≤ 2147483647
    omega
  · cases h
theorem iOk_eq (s : Tx) : iOk s = (p32B s && (itoT (v32 s) == s)) := by
  rw [iOk, Bool.eq_iff_iff, Bool.and_eq_true, beq_iff_eq]
  constructor
  · intro h
    cases hn : numT s with
    | none => rw [hn] at h; cases h
    | some v =>
      rw [hn] at h
      have hb : -2147483648 ≤ v ∧ v ≤ 2147483647 := of_decide_eq_true h
      obtain ⟨e, h1, h2⟩ := itoT_numT hn
      have h3 : Lib.parseIntB 64 (s.map UInt8.ofBitVec) = .ok v := by rw [← e]; exact pi_itoT h1 h2
      have h4 := pi_small h3 hb.1 hb.2
      rw [p32B, v32, h4]
      exact ⟨rfl, e⟩
  · rintro ⟨hp, e⟩
    obtain ⟨h1, h2⟩ := p32_bd hp
    rw [← e, numT_itoT (by omega) (by omega)]
    exact decide_eq_true ⟨h1, h2⟩
theorem pi32_any (s : Tx) (hs : s.length ≤ 281474976710656) : Spc Tryz.prog 108 #[.string (txt s), .int .i64 10, .int .i64 32] [gvI] [] (NuR (.int .i64 (v32 s)) (p32B s)) := NuR.of fun w hw => by
  have hsz := txt_size s
  obtain ⟨⟨-, t1, p1, h2⟩, ⟨t2, p2, h3⟩, -⟩ := hw.i gvI (by simp)
  have hv : v32 s = match Lib.parseIntB 32 (txt s).data.toList with
    | .ok v => v
    | .range => Lib.intSat 32 (txt s).data.toList
    | _ => 0 := by rw [txt_data]; rfl
  have hp : p32B s = match Lib.parseIntB 32 (txt s).data.toList with
    | .ok _ => true
    | _ => false := by rw [txt_data]; rfl
  rw [hv, hp]
  cases h : Lib.parseIntB 32 (txt s).data.toList with
  | ok v =>
    refine (Any.strconv_ParseInt_10_at32_ok Tryz.lPi (txt s) (by omega) v h w).mono ?_
    rintro e w' ⟨rfl, hw'⟩
    refine ⟨⟨.nilIface, rfl, .inl ⟨rfl, rfl⟩⟩, ?_⟩
    rcases hw' with rfl | ⟨t, rfl⟩
    · exact Below.refl _ _
    · exact Lib.bytesWorld_below _ _ _
  | range =>
    refine (Any.strconv_ParseInt_10_at32_range_var Tryz.lPi (txt s) (by omega) h t2 p2 w h3).mono ?_
    rintro e w' ⟨N, rfl, -, -, hb⟩
    exact ⟨⟨_, rfl, .inr ⟨rfl, _, _, rfl⟩⟩, hb⟩
  | _ =>
    refine (Any.strconv_ParseInt_10_at32_syntax_var Tryz.lPi (txt s) (by omega) h t1 p1 w h2).mono ?_
    rintro e w' ⟨N, rfl, -, -, hb⟩
    exact ⟨⟨_, rfl, .inr ⟨rfl, _, _, rfl⟩⟩, hb⟩
theorem ssigned_any (s : Tx) (hs : s.length ≤ 1000000) :
    Spc Tryz.prog 66 #[strV s, .int .i64 64] [gvI] [] (Is (.tuple #[.int .i64 (numV s), .bool (sOk s)])) := by
  rw [sOk_eq]
  refine Spc.enter Tryz.func66 rfl rfl rfl (fun w0 hw0 => ?_)
  refine CW.seq (CW.rg (RL.p rfl (RL.p rfl (RL.nil (NQ.seq (CW.seq (CW.region (ef := [2]) (bk := [2]) (RL.p rfl (RL.p rfl (RL.callq (pi_any s (by omega)) Tryz.call108 rfl rfl rfl rfl rfl (.inr rfl) ?_))))))))))
  rintro _ _ _ ⟨er, rfl, her, rfl, rfl⟩
  refine RL.p rfl (RL.p rfl (RL.p rfl (RL.p rfl (RL.p rfl (RL.nil (NQ.seq (CW.ok [0, 6, 7] rfl (CW.seq (CW.region (ef := [5]) (bk := []) (RL.p rfl (RL.p rfl ?_)))))))))))
  rcases her with ⟨hok, rfl⟩ | ⟨hok, t, q, rfl⟩
  · obtain ⟨h3, h4⟩ := piB_bd hok
    rw [hok]
    refine RL.cmp rfl rfl rfl rfl rfl (fun w => eql_no _ w) ?_
    refine RL.p rfl (RL.cast (d := 17) (v' := .bool true) rfl (rfl) ?_)
    refine RL.p rfl (RL.callvq (fmt_any (numV s) (by omega) (by omega)) Tryz.call89 rfl rfl rfl rfl ?_)
    refine RL.p rfl (RL.cmp rfl rfl rfl rfl rfl (fun w => eql_txt _ _ w) ?_)
    refine RL.p rfl (RL.p rfl (RL.p rfl (RL.nil (NQ.seq (CW.ok [4, 5] rfl (CW.ret ?_))))))
    exact RQ.post (res2 rfl rfl rfl) (Split.none _) ⟨rfl, rfl, rfl⟩
  · rw [hok]
    refine RL.cmp rfl rfl rfl rfl rfl (fun w => eql_er _ t _ w) ?_
    refine RL.p rfl (RL.cast (d := 17) (v' := .bool false) rfl (rfl) ?_)
    refine RL.p rfl (RL.p rfl (RL.p rfl (RL.p rfl (RL.p rfl (RL.p rfl (RL.p rfl (RL.nil (NQ.seq (CW.ok [4, 5] rfl (CW.ret ?_))))))))))
    exact RQ.post (res2 rfl rfl rfl) (Split.none _) ⟨rfl, rfl, rfl⟩
theorem ssigned32_any (s : Tx) (hs : s.length ≤ 1000000) :
    Spc Tryz.prog 66 #[strV s, .int .i64 32] [gvI] [] (Is (.tuple #[.int .i64 (v32 s), .bool (iOk s)])) := by
  rw [iOk_eq]
  refine Spc.enter Tryz.func66 rfl rfl rfl (fun w0 hw0 => ?_)
  refine CW.seq (CW.rg (RL.p rfl (RL.p rfl (RL.nil (NQ.seq (CW.seq (CW.region (ef := [2]) (bk := [2]) (RL.p rfl (RL.p rfl (RL.callq (pi32_any s (by omega)) Tryz.call108 rfl rfl rfl rfl rfl (.inr rfl) ?_))))))))))
  rintro _ _ _ ⟨er, rfl, her, rfl, rfl⟩
  refine RL.p rfl (RL.p rfl (RL.p rfl (RL.p rfl (RL.p rfl (RL.nil (NQ.seq (CW.ok [0, 6, 7] rfl (CW.seq (CW.rg (RL.p rfl (RL.p rfl ?_)))))))))))
  rcases her with ⟨hok, rfl⟩ | ⟨hok, t, q, rfl⟩
  · obtain ⟨h3, h4⟩ := p32_bd hok
    rw [hok]
    refine RL.cmp rfl rfl rfl rfl rfl (fun w => eql_no _ w) ?_
    refine RL.p rfl (RL.cast (d := 17) (v' := .bool true) rfl (rfl) ?_)
    refine RL.p rfl (RL.callvq (fmt_any (v32 s) (by omega) (by omega)) Tryz.call89 rfl rfl rfl rfl ?_)
    refine RL.p rfl (RL.cmp rfl rfl rfl rfl rfl (fun w => eql_txt _ _ w) ?_)
    refine RL.p rfl (RL.p rfl (RL.p rfl (RL.nil (NQ.seq (CW.ok [4, 5] rfl (CW.ret ?_))))))
    exact RQ.post (res2 rfl rfl rfl) (Split.none _) ⟨rfl, rfl, rfl⟩
  · rw [hok]
    refine RL.cmp rfl rfl rfl rfl rfl (fun w => eql_er _ t _ w) ?_
    refine RL.p rfl (RL.cast (d := 17) (v' := .bool false) rfl (rfl) ?_)
    refine RL.p rfl (RL.p rfl (RL.p rfl (RL.p rfl (RL.p rfl (RL.p rfl (RL.p rfl (RL.nil (NQ.seq (CW.ok [4, 5] rfl (CW.ret ?_))))))))))
    exact RQ.post (res2 rfl rfl rfl) (Split.none _) ⟨rfl, rfl, rfl⟩
end Go.Proofs.YtpaemkemknfmfaaGreatDoor

namespace Go.Proofs.YtpaemkemknfmfaaGreatDoor
open Go.PK
/-! ### Words that are numbers -/
theorem tl_st {ws : List Tx} {p : Pd} {x : Wds} (hp : p [] = false) : ((tlW ws x).2 && p (nxW ws x)) = (stP ws p x).2 := by
  show (x.2 && decide (x.1 < ws.length) && p (nxW ws x)) = (x.2 && p (nxW ws x))
  by_cases h : x.1 < ws.length
  · rw [decide_eq_true h, Bool.and_true]
  · rw [nxW_nil h, hp, Bool.and_false, Bool.and_false]
theorem wd_st {b : Nat} {p : Addr} {n : Nat} {ws : List Tx} {q : Pd} {x : Wds} {g : Bool} (hn : ws.length = n) (hq : q [] = false) (h : g = ((tlW ws x).2 && q (nxW ws x))) : ([cel b [wsl p n (tlW ws x).1, .bool g] 56] : List It) = [wdI b p n (stP ws q x)] := by
  rw [h, tl_st hq]; rfl
theorem snum_any (b : Nat) (p : Addr) (n : Nat) (ws : List Tx) (x : Wds) (m : Nat) (hn : ws.length = n) (h1 : 1 ≤ n) (hx : x.1 ≤ n) (hb : n ≤ 1000000) (hw : WLen ws) :
    Spc Tryz.prog 19 #[.pointer (some ⟨b, 0, none⟩), .int .u64 (m : Int)] [wsI p n ws, gvI] [wdI b p n x] (WdR b p n (.int .u64 (bareV (nxW ws x))) (stP ws (uOk m) x)) := by
  have hl := hw.nx x
  refine Spc.enter Tryz.func19 rfl rfl rfl (fun w0 hw0 => ?_)
  refine CW.seq (CW.rg (RL.p rfl (RL.nil (NQ.seq (CW.seq (CW.region (ef := [1]) (bk := [1]) (RL.p rfl (RL.callq (wnext_any b p n ws x hn h1 hx hb) Tryz.call18 rfl rfl rfl rfl rfl (.inr rfl) ?_))))))))
  rintro _ _ _ ⟨rfl, rfl, rfl⟩
  refine RL.p rfl (RL.callvq (snumber_any (nxW ws x) m hl) Tryz.call32 rfl rfl rfl rfl ?_)
  refine RL.p rfl (RL.p rfl (RL.p rfl (RL.p rfl (RL.p rfl (RL.nil (NQ.seq (CW.ok [0, 5, 6] rfl (CW.seq (CW.region (ef := [10]) (bk := [10]) (RL.p rfl (RL.p rfl (RL.p rfl (RL.fieldAddr fa_56_1 rfl rfl rfl rfl ?_)))))))))))))
  refine RL.loadq Tryz.isAgg4 rfl rfl rfl rfl ?_
  refine RL.p rfl ?_
  apply RL.andB (d := 19) (dp := 21) (l' := (Sq.of [8, 9, 10])) rfl (sK [5, 14] rfl)
  ·
    intro hb6 K6
    refine RL.p rfl (RL.p rfl ?_)
    exact K6 _ (.cons rfl (sK [5, 14] rfl))
  ·
    intro hb6 K6
    refine RL.p rfl (RL.p rfl ?_)
    exact K6 _ (.cons rfl (sK [5, 14] rfl))
  refine RL.p rfl (RL.fieldAddr fa_56_1 rfl rfl rfl rfl (RL.store (vs := [_]) Tryz.sizeOf4 rfl rfl rfl rfl rfl rfl rfl rfl rfl (by repeat (first | exact Upd.here | apply Upd.there)) ?_))
  refine RL.nil (NQ.seq (CW.seq (CW.rg (RL.p rfl (RL.p rfl (RL.nil (NQ.seq (CW.ok [4] rfl (CW.ret ?_)))))))))
  exact RQ.post (res1 rfl rfl) (.keep .nil) ⟨rfl, rfl, wd_st hn rfl rfl⟩
theorem sfix_any (b : Nat) (p : Addr) (n : Nat) (ws : List Tx) (x : Wds)  (hn : ws.length = n) (h1 : 1 ≤ n) (hx : x.1 ≤ n) (hb : n ≤ 1000000) (hw : WLen ws) :
    Spc Tryz.prog 34 #[.pointer (some ⟨b, 0, none⟩)] [wsI p n ws, gvI] [wdI b p n x] (WdR b p n (.int .i64 (numV (nxW ws x))) (stP ws (sOk) x)) := by
  have hl := hw.nx x
  refine Spc.enter Tryz.func34 rfl rfl rfl (fun w0 hw0 => ?_)
  refine CW.seq (CW.rg (RL.p rfl (RL.nil (NQ.seq (CW.seq (CW.region (ef := [1]) (bk := [1]) (RL.p rfl (RL.callq (wnext_any b p n ws x hn h1 hx hb) Tryz.call18 rfl rfl rfl rfl rfl (.inr rfl) ?_))))))))
  rintro _ _ _ ⟨rfl, rfl, rfl⟩
  refine RL.callvq (ssigned_any (nxW ws x) hl) Tryz.call66 rfl rfl rfl rfl ?_
  refine RL.p rfl (RL.p rfl (RL.p rfl (RL.p rfl (RL.p rfl (RL.nil (NQ.seq (CW.ok [0, 3, 4] rfl (CW.seq (CW.region (ef := [10]) (bk := [10]) (RL.p rfl (RL.p rfl (RL.p rfl (RL.fieldAddr fa_56_1 rfl rfl rfl rfl ?_)))))))))))))
  refine RL.loadq Tryz.isAgg4 rfl rfl rfl rfl ?_
  refine RL.p rfl ?_
  apply RL.andB (d := 16) (dp := 18) (l' := (Sq.of [8, 9, 10])) rfl (sK [3, 11] rfl)
  ·
    intro hb6 K6
    refine RL.p rfl (RL.p rfl ?_)
    exact K6 _ (.cons rfl (sK [3, 11] rfl))
  ·
    intro hb6 K6
    refine RL.p rfl (RL.p rfl ?_)
    exact K6 _ (.cons rfl (sK [3, 11] rfl))
  refine RL.p rfl (RL.fieldAddr fa_56_1 rfl rfl rfl rfl (RL.store (vs := [_]) Tryz.sizeOf4 rfl rfl rfl rfl rfl rfl rfl rfl rfl (by repeat (first | exact Upd.here | apply Upd.there)) ?_))
  refine RL.nil (NQ.seq (CW.seq (CW.rg (RL.p rfl (RL.p rfl (RL.nil (NQ.seq (CW.ok [2] rfl (CW.ret ?_)))))))))
  exact RQ.post (res1 rfl rfl) (.keep .nil) ⟨rfl, rfl, wd_st hn rfl rfl⟩
theorem ssmall_any (b : Nat) (p : Addr) (n : Nat) (ws : List Tx) (x : Wds)  (hn : ws.length = n) (h1 : 1 ≤ n) (hx : x.1 ≤ n) (hb : n ≤ 1000000) (hw : WLen ws) :
    Spc Tryz.prog 35 #[.pointer (some ⟨b, 0, none⟩)] [wsI p n ws, gvI] [wdI b p n x] (WdR b p n (.int .i32 (IntKind.i32.wrap (v32 (nxW ws x)))) (stP ws (iOk) x)) := by
  have hl := hw.nx x
  refine Spc.enter Tryz.func35 rfl rfl rfl (fun w0 hw0 => ?_)
  refine CW.seq (CW.rg (RL.p rfl (RL.nil (NQ.seq (CW.seq (CW.region (ef := [1]) (bk := [1]) (RL.p rfl (RL.callq (wnext_any b p n ws x hn h1 hx hb) Tryz.call18 rfl rfl rfl rfl rfl (.inr rfl) ?_))))))))
  rintro _ _ _ ⟨rfl, rfl, rfl⟩
  refine RL.callvq (ssigned32_any (nxW ws x) hl) Tryz.call66 rfl rfl rfl rfl ?_
  refine RL.p rfl (RL.p rfl (RL.p rfl (RL.p rfl (RL.p rfl (RL.nil (NQ.seq (CW.ok [0, 3, 4] rfl (CW.seq (CW.region (ef := [10]) (bk := [10]) (RL.p rfl (RL.p rfl (RL.p rfl (RL.fieldAddr fa_56_1 rfl rfl rfl rfl ?_)))))))))))))
  refine RL.loadq Tryz.isAgg4 rfl rfl rfl rfl ?_
  refine RL.p rfl ?_
  apply RL.andB (d := 16) (dp := 18) (l' := (Sq.of [8, 9, 10])) rfl (sK [3, 11] rfl)
  ·
    intro hb6 K6
    refine RL.p rfl (RL.p rfl ?_)
    exact K6 _ (.cons rfl (sK [3, 11] rfl))
  ·
    intro hb6 K6
    refine RL.p rfl (RL.p rfl ?_)
    exact K6 _ (.cons rfl (sK [3, 11] rfl))
  refine RL.p rfl (RL.fieldAddr fa_56_1 rfl rfl rfl rfl (RL.store (vs := [_]) Tryz.sizeOf4 rfl rfl rfl rfl rfl rfl rfl rfl rfl (by repeat (first | exact Upd.here | apply Upd.there)) ?_))
  refine RL.nil (NQ.seq (CW.seq (CW.rg (RL.p rfl (RL.conv Tryz.runUnderlying2 Tryz.runUnderlying31 rfl rfl rfl rfl (RL.p rfl (RL.nil (NQ.seq (CW.ok [2] rfl (CW.ret ?_))))))))))
  exact RQ.post (res1 rfl rfl) (.keep .nil) ⟨rfl, rfl, wd_st hn rfl rfl⟩
end Go.Proofs.YtpaemkemknfmfaaGreatDoor

namespace Go.Proofs.YtpaemkemknfmfaaGreatDoor
open Go.PK
/-! ### Three numbers -/
def nkW (ws : List Tx) (p : Pd) : Nat → Wds → Wds
  | 0, x => x
  | i + 1, x => stP ws p (nkW ws p i x)
theorem nkW_le {ws : List Tx} {p : Pd} {x : Wds} {n : Nat} (hn : ws.length = n) (hx : x.1 ≤ n) : ∀ i, (nkW ws p i x).1 ≤ n
  | 0 => hx
  | _ + 1 => by rw [← hn]; exact Nat.min_le_right _ _
theorem nkW3 (ws : List Tx) (p : Pd) (x : Wds) : nkW ws p 3 x = stPs ws [p, p, p] x := rfl
/-- Three cells, so many of them filled. -/
def c3 (f : Nat → Value) (z : Value) (k : Nat) : List Value := [if 0 < k then f 0 else z, if 1 < k then f 1 else z, if 2 < k then f 2 else z]
theorem c3_step {f : Nat → Value} {z : Value} : ∀ {k : Nat}, k < 3 → spl (c3 f z k) (0 + k * 1) [f k] = c3 f z (k + 1)
  | 0, _ => rfl
  | 1, _ => rfl
  | 2, _ => rfl
noncomputable def z32 (ws : List Tx) (x : Wds) (k : Nat) : Int := IntKind.i32.wrap (v32 (nxW ws (nkW ws iOk k x)))
noncomputable def z64 (ws : List Tx) (x : Wds) (k : Nat) : Int := numV (nxW ws (nkW ws sOk k x))
theorem sthree_any (b : Nat) (p : Addr) (n : Nat) (ws : List Tx) (x : Wds) (hn : ws.length = n) (h1 : 1 ≤ n) (hx : x.1 ≤ n) (hb : n ≤ 1000000) (hw : WLen ws) :
    Spc Tryz.prog 33 #[.pointer (some ⟨b, 0, none⟩)] [wsI p n ws, gvI] [wdI b p n x] (WdR b p n (.agg [.int .i32 (z32 ws x 0), .int .i32 (z32 ws x 1), .int .i32 (z32 ws x 2)].toArray) (stPs ws [iOk, iOk, iOk] x)) := by
  have hk := nkW_le (p := iOk) (x := x) hn hx
  refine Spc.enter Tryz.func33 rfl rfl rfl (fun w0 hw0 => ?_)
  refine CW.seq (CW.region (ef := [0]) (bk := []) (RL.alloc Tryz.zeroValue32 rfl rfl rfl rfl rfl ?_))
  intro b1
  refine RL.nil (NQ.seq (CW.seq (CW.region (ef := [0]) (bk := []) (RL.alloc Tryz.zeroValue32 rfl rfl rfl rfl rfl ?_))))
  intro b2
  refine RL.nil (NQ.seq (CW.seq (CW.seq (CW.rg (RL.p rfl (RL.nil (NQ.seq (CW.block ?_))))))))
  refine CW.loop (γ := Nat) (fun k => k ≤ 3) (fun k => [(0, .pointer (some ⟨b, 0, none⟩)), (2, .pointer (some ⟨b1, 0, none⟩)), (3, .pointer (some ⟨b2, 0, none⟩)), (5, .int .i64 (k : Int))]) (fun _ => [wsI p n ws, gvI])
    (fun k => [wdI b p n (nkW ws iOk k x), cel b2 (c3 (fun j => .int .i32 (z32 ws x j)) (.int .i32 0) k) 32, cel b1 (c3 (fun j => .int .i32 (z32 ws x j)) (.int .i32 0) 0) 32]) (fun k => 3 - k) 0 (by omega)
    (.cons rfl (.cons rfl (.cons rfl (.cons rfl .nil)))) (fun w h => h.rea (fun _ h => h) (by repeat (first | exact Rea.nil | (apply Rea.cons; (solve | (repeat (first | exact Del.here | apply Del.there))))))) ?_
  intro k hk3
  refine CW.seq (CW.rg (RL.p rfl (RL.nil (NQ.seq (CW.seq ?_)))))
  refine CW.cond rfl (fun hlt => ?_) (fun hlt => ?_)
  · have hlt : k < 3 := by simp at hlt; omega
    refine CW.skip (NQ.seq (CW.seq (CW.block (CW.seq (CW.rg (RL.p rfl (RL.p rfl (RL.nil (NQ.seq (CW.region (ef := [2, 4]) (bk := [2, 4]) (RL.p rfl (RL.p rfl (RL.callq (ssmall_any b p n ws (nkW ws iOk k x) hn h1 (hk k) hb hw) Tryz.call35 rfl rfl rfl rfl rfl (.inr rfl) ?_)))))))))))))
    rintro _ _ _ ⟨rfl, rfl, rfl⟩
    refine RL.idxAAt (j := k) Tryz.runUnderlying32 Tryz.sizeOf31 rfl rfl rfl rfl rfl rfl hlt (RL.storeX (cs' := c3 (fun j => .int .i32 (z32 ws x j)) (.int .i32 0) (k + 1)) (vs := [_]) (c3_step hlt) Tryz.sizeOf31 rfl rfl rfl rfl rfl rfl rfl rfl (by repeat (first | exact Upd.here | apply Upd.there)) (by simp [c3]; omega) ?_)
    refine RL.nil (NQ.block (NQ.seq (CW.ok [0, 2, 3, 5] rfl (CW.rg (RL.bx rfl (wrapV_i64 (by omega) (by omega)) ?_)))))
    refine RL.p rfl (RL.nil ?_)
    exact NQ.round (g := k) (k + 1) hlt (by show 3 - (k + 1) < 3 - k; omega) (.cons rfl (.cons rfl (.cons rfl (.cons rfl .nil)))) (fun w h => h.rea (fun _ h => h) (by repeat (first | exact Rea.nil | (apply Rea.cons; (solve | (repeat (first | exact Del.here | apply Del.there)))))))
  ·
    have hk3 : k = 3 := by simp at hlt; omega
    subst hk3
    rw [nkW3]
    have e3 : c3 (fun j => Value.int .i32 (z32 ws x j)) (.int .i32 0) 3 = [.int .i32 (z32 ws x 0), .int .i32 (z32 ws x 1), .int .i32 (z32 ws x 2)] := rfl
    have e0 : c3 (fun j => Value.int .i32 (z32 ws x j)) (.int .i32 0) 0 = [.int .i32 0, .int .i32 0, .int .i32 0] := rfl
    rw [e3, e0]
    refine CW.exit (XQ.seq (XQ.seq (XQ.hit (NQ.seq (CW.seq (CW.region (ef := [1]) (bk := [1]) (RL.loadN (vs := [_, _, _]) Tryz.isAgg32 Tryz.sizeOf32 rfl rfl rfl rfl (by first | (apply Rds.cel; (solve | (repeat (first | exact List.Mem.head _ | apply List.Mem.tail))); exact at_spec ⟨rfl, rfl, rfl, trivial⟩) | (apply Rds.celI; (solve | (repeat (first | exact List.Mem.head _ | apply List.Mem.tail))); exact at_spec ⟨rfl, rfl, rfl, trivial⟩) | assumption | (apply RdsI.rds; assumption)) ?_)))))))
    refine RL.store (vs := [_, _, _]) Tryz.sizeOf32 rfl rfl rfl rfl rfl rfl rfl rfl rfl (by repeat (first | exact Upd.here | apply Upd.there)) ?_
    refine RL.nil (NQ.seq (CW.ret ?_))
    exact RQ.post (resW rfl rfl Tryz.isAgg32 Tryz.sizeOf32 (by repeat (first | exact List.Mem.head _ | apply List.Mem.tail)) rfl) (.keep (Split.none _)) ⟨rfl, rfl, rfl⟩
theorem svec_any (b : Nat) (p : Addr) (n : Nat) (ws : List Tx) (x : Wds) (hn : ws.length = n) (h1 : 1 ≤ n) (hx : x.1 ≤ n) (hb : n ≤ 1000000) (hw : WLen ws) :
    Spc Tryz.prog 21 #[.pointer (some ⟨b, 0, none⟩)] [wsI p n ws, gvI] [wdI b p n x] (WdR b p n (.agg [.int .i64 (z64 ws x 0), .int .i64 (z64 ws x 1), .int .i64 (z64 ws x 2)].toArray) (stPs ws [sOk, sOk, sOk] x)) := by
  have hk := nkW_le (p := sOk) (x := x) hn hx
  refine Spc.enter Tryz.func21 rfl rfl rfl (fun w0 hw0 => ?_)
  refine CW.seq (CW.region (ef := [0]) (bk := []) (RL.alloc Tryz.zeroValue36 rfl rfl rfl rfl rfl ?_))
  intro b1
  refine RL.nil (NQ.seq (CW.seq (CW.region (ef := [0]) (bk := []) (RL.alloc Tryz.zeroValue36 rfl rfl rfl rfl rfl ?_))))
  intro b2
  refine RL.nil (NQ.seq (CW.seq (CW.seq (CW.rg (RL.p rfl (RL.nil (NQ.seq (CW.block ?_))))))))
  refine CW.loop (γ := Nat) (fun k => k ≤ 3) (fun k => [(0, .pointer (some ⟨b, 0, none⟩)), (2, .pointer (some ⟨b1, 0, none⟩)), (3, .pointer (some ⟨b2, 0, none⟩)), (5, .int .i64 (k : Int))]) (fun _ => [wsI p n ws, gvI])
    (fun k => [wdI b p n (nkW ws sOk k x), cel b2 (c3 (fun j => .int .i64 (z64 ws x j)) (.int .i64 0) k) 36, cel b1 (c3 (fun j => .int .i64 (z64 ws x j)) (.int .i64 0) 0) 36]) (fun k => 3 - k) 0 (by omega)
    (.cons rfl (.cons rfl (.cons rfl (.cons rfl .nil)))) (fun w h => h.rea (fun _ h => h) (by repeat (first | exact Rea.nil | (apply Rea.cons; (solve | (repeat (first | exact Del.here | apply Del.there))))))) ?_
  intro k hk3
  refine CW.seq (CW.rg (RL.p rfl (RL.nil (NQ.seq (CW.seq ?_)))))
  refine CW.cond rfl (fun hlt => ?_) (fun hlt => ?_)
  · have hlt : k < 3 := by simp at hlt; omega
    refine CW.skip (NQ.seq (CW.seq (CW.block (CW.seq (CW.rg (RL.p rfl (RL.p rfl (RL.nil (NQ.seq (CW.region (ef := [2, 4]) (bk := [2, 4]) (RL.p rfl (RL.p rfl (RL.callq (sfix_any b p n ws (nkW ws sOk k x) hn h1 (hk k) hb hw) Tryz.call34 rfl rfl rfl rfl rfl (.inr rfl) ?_)))))))))))))
    rintro _ _ _ ⟨rfl, rfl, rfl⟩
    refine RL.idxAAt (j := k) Tryz.runUnderlying36 Tryz.sizeOf33 rfl rfl rfl rfl rfl rfl hlt (RL.storeX (cs' := c3 (fun j => .int .i64 (z64 ws x j)) (.int .i64 0) (k + 1)) (vs := [_]) (c3_step hlt) Tryz.sizeOf33 rfl rfl rfl rfl rfl rfl rfl rfl (by repeat (first | exact Upd.here | apply Upd.there)) (by simp [c3]; omega) ?_)
    refine RL.nil (NQ.block (NQ.seq (CW.ok [0, 2, 3, 5] rfl (CW.rg (RL.bx rfl (wrapV_i64 (by omega) (by omega)) ?_)))))
    refine RL.p rfl (RL.nil ?_)
    exact NQ.round (g := k) (k + 1) hlt (by show 3 - (k + 1) < 3 - k; omega) (.cons rfl (.cons rfl (.cons rfl (.cons rfl .nil)))) (fun w h => h.rea (fun _ h => h) (by repeat (first | exact Rea.nil | (apply Rea.cons; (solve | (repeat (first | exact Del.here | apply Del.there)))))))
  ·
    have hk3 : k = 3 := by simp at hlt; omega
    subst hk3
    rw [nkW3]
    have e3 : c3 (fun j => Value.int .i64 (z64 ws x j)) (.int .i64 0) 3 = [.int .i64 (z64 ws x 0), .int .i64 (z64 ws x 1), .int .i64 (z64 ws x 2)] := rfl
    have e0 : c3 (fun j => Value.int .i64 (z64 ws x j)) (.int .i64 0) 0 = [.int .i64 0, .int .i64 0, .int .i64 0] := rfl
    rw [e3, e0]
    refine CW.exit (XQ.seq (XQ.seq (XQ.hit (NQ.seq (CW.seq (CW.region (ef := [1]) (bk := [1]) (RL.loadN (vs := [_, _, _]) Tryz.isAgg36 Tryz.sizeOf36 rfl rfl rfl rfl (by first | (apply Rds.cel; (solve | (repeat (first | exact List.Mem.head _ | apply List.Mem.tail))); exact at_spec ⟨rfl, rfl, rfl, trivial⟩) | (apply Rds.celI; (solve | (repeat (first | exact List.Mem.head _ | apply List.Mem.tail))); exact at_spec ⟨rfl, rfl, rfl, trivial⟩) | assumption | (apply RdsI.rds; assumption)) ?_)))))))
    refine RL.store (vs := [_, _, _]) Tryz.sizeOf36 rfl rfl rfl rfl rfl rfl rfl rfl rfl (by repeat (first | exact Upd.here | apply Upd.there)) ?_
    refine RL.nil (NQ.seq (CW.ret ?_))
    exact RQ.post (resW rfl rfl Tryz.isAgg36 Tryz.sizeOf36 (by repeat (first | exact List.Mem.head _ | apply List.Mem.tail)) rfl) (.keep (Split.none _)) ⟨rfl, rfl, rfl⟩
end Go.Proofs.YtpaemkemknfmfaaGreatDoor
