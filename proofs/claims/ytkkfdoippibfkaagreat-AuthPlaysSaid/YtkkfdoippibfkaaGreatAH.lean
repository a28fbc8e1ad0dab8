import Derived.Test.YtkkfdoippibfkaaGreatBase
namespace Go.Proofs.YtkkfdoippibfkaaGreat
open Go.PK

theorem RdI.sls {I : List It} {a : Addr} {n j : Nat} {l : List Int} {x : Int} (hm : sls (some a) 1 n (ints l) ∈ I) (h : l[j]? = some x) : RdI I (a.add (j * 1)) (.int .i64 x) := ⟨fun _ => by
  rw [Nat.mul_one]
  exact Rds.rd (Rds.sls hm) (by rw [List.getElem?_map, h]; rfl)⟩
theorem sameInts_any (p q : Option Addr) (c1 c2 : Nat) (a b : List Int) (ha : a.length ≤ maxLen) : Spc Tryz.prog 50 #[.slice p a.length c1, .slice q b.length c2] [sls p 1 a.length (ints a), sls q 1 b.length (ints b)] [] (Is (.bool (a == b))) := by
  have ha : a.length ≤ 9223372036854775807 := ha
  refine Spc.enter Tryz.func50 rfl rfl rfl (fun w0 hw0 => ?_)
  refine CW.seq ?_
  refine CW.region (ef := []) (bk := []) ?_
  refine RL.assign rfl rfl rfl rfl ?_
  refine RL.nil ?_
  refine NQ.seq ?_
  refine CW.seq ?_
  refine CW.seq ?_
  refine CW.region (ef := []) (bk := []) ?_
  refine RL.move rfl rfl rfl rfl ?_
  refine RL.lenS Tryz.runUnderlying41 rfl rfl rfl rfl ?_
  refine RL.move rfl rfl rfl rfl ?_
  refine RL.lenS Tryz.runUnderlying41 rfl rfl rfl rfl ?_
  refine RL.bin rfl rfl rfl rfl rfl rfl ?_
  refine RL.nil ?_
  refine NQ.seq ?_
  refine CW.cond rfl (fun hl => ?_) (fun hl => ?_)
  ·
    refine CW.seq ?_
    refine CW.region (ef := []) (bk := []) ?_
    refine RL.assign rfl rfl rfl rfl ?_
    refine RL.nil ?_
    refine NQ.seq ?_
    refine CW.ret ?_
    refine RQ.seq ?_
    have hl : a.length ≠ b.length := by simp at hl; omega
    have hne : (a == b) = false := by simp; intro h; exact hl (by rw [h])
    exact RQ.post (res1 rfl rfl) (Split.none _) ⟨by rw [hne], rfl, rfl⟩
  ·
    refine CW.skip ?_
    refine NQ.seq ?_
    refine CW.only (.cons (k := 0) rfl (.cons (k := 1) rfl .nil)) ?_
    refine CW.seq ?_
    refine CW.seq ?_
    refine CW.region (ef := []) (bk := []) ?_
    refine RL.assign rfl rfl rfl rfl ?_
    refine RL.nil ?_
    refine NQ.seq ?_
    refine CW.block ?_
    have hl : a.length = b.length := by simp at hl; omega
    refine CW.loop (γ := Nat) (fun i => i ≤ a.length ∧ a.take i = b.take i) (fun i => [(0, .slice p a.length c1), (1, .slice q b.length c2), (5, .int .i64 (i : Int))]) (fun _ => [sls p 1 a.length (ints a), sls q 1 b.length (ints b)]) (fun _ => []) (fun i => a.length - i) 0 ⟨by omega, by simp⟩ (.cons rfl (.cons rfl (.cons rfl .nil))) (fun w h => h) ?_
    rintro i ⟨hi, ht⟩
    refine CW.fact (p := (p = none → a.length = 0) ∧ (q = none → b.length = 0)) (fun w hC => ⟨fun e => sls_nil (hC.s.i (sls p 1 a.length (ints a)) (by repeat (first | exact List.Mem.head _ | apply List.Mem.tail))) e, fun e => sls_nil (hC.s.i (sls q 1 b.length (ints b)) (by repeat (first | exact List.Mem.head _ | apply List.Mem.tail))) e⟩) (fun ⟨hp, hq⟩ => ?_)
    refine CW.seq ?_
    refine CW.seq ?_
    refine CW.region (ef := []) (bk := []) ?_
    refine RL.move rfl rfl rfl rfl ?_
    refine RL.move rfl rfl rfl rfl ?_
    refine RL.lenS Tryz.runUnderlying41 rfl rfl rfl rfl ?_
    refine RL.bin rfl rfl rfl rfl rfl rfl ?_
    refine RL.nil ?_
    refine NQ.seq ?_
    refine CW.cond rfl (fun hlt => ?_) (fun hlt => ?_)
    ·
      have hlt : i < a.length := by simp at hlt; omega
      have hlb : i < b.length := by omega
      cases p with
      | none => exact absurd (hp rfl) (by omega)
      | some a' =>
      cases q with
      | none => exact absurd (hq rfl) (by omega)
      | some b' =>
      have f1 := RdI.sls (I := [sls (some a') 1 a.length (ints a), sls (some b') 1 b.length (ints b)]) (List.Mem.head _) (List.getElem?_eq_getElem hlt)
      have f2 := RdI.sls (I := [sls (some a') 1 a.length (ints a), sls (some b') 1 b.length (ints b)]) (List.Mem.tail _ (List.Mem.head _)) (List.getElem?_eq_getElem hlb)
      refine CW.skip ?_
      refine NQ.seq ?_
      refine CW.seq ?_
      refine CW.block ?_
      refine CW.seq ?_
      refine CW.regionD (Sq.of [0, 1, 2, 3, 4, 5, 6, 7, 8]) [] [] [0, 1, 2, 3, 4, 5, 6, 7, 8] mixed (by kernel_rfl) ?_
      refine RL.move rfl rfl rfl rfl ?_
      refine RL.move rfl rfl rfl rfl ?_
      first | refine RL.idxAt (j := i) Tryz.runUnderlying41 Tryz.sizeOf3 rfl rfl rfl rfl rfl rfl (by omega) ?_ | refine RL.idx (j := i) Tryz.runUnderlying41 Tryz.sizeOf3 rfl rfl rfl rfl rfl rfl (by omega) ?_
      refine RL.loadTq Tryz.isAgg3 rfl rfl rfl rfl ?_
      refine RL.move rfl rfl rfl rfl ?_
      refine RL.move rfl rfl rfl rfl ?_
      first | refine RL.idxAt (j := i) Tryz.runUnderlying41 Tryz.sizeOf3 rfl rfl rfl rfl rfl rfl (by omega) ?_ | refine RL.idx (j := i) Tryz.runUnderlying41 Tryz.sizeOf3 rfl rfl rfl rfl rfl rfl (by omega) ?_
      refine RL.loadTq Tryz.isAgg3 rfl rfl rfl rfl ?_
      refine RL.bin rfl rfl rfl rfl rfl rfl ?_
      refine RL.nil ?_
      refine NQ.seq ?_
      refine CW.only (.cons (k := 0) rfl (.cons (k := 1) rfl (.cons (k := 5) rfl (.cons (k := 25) rfl .nil)))) ?_
      refine CW.cond rfl (fun hx => ?_) (fun hx => ?_)
      ·
        refine CW.seq ?_
        refine CW.region (ef := []) (bk := []) ?_
        refine RL.assign rfl rfl rfl rfl ?_
        refine RL.nil ?_
        refine NQ.seq ?_
        refine CW.ret ?_
        refine RQ.block ?_
        refine RQ.seq ?_
        refine RQ.seq ?_
        refine RQ.block ?_
        refine RQ.seq ?_
        have hx : a[i] ≠ b[i] := by simpa using hx
        have hne : (a == b) = false := by
          simp only [beq_eq_false_iff_ne]; intro h; subst h; exact hx rfl
        exact RQ.post (res1 rfl rfl) (Split.none _) ⟨by rw [hne], rfl, rfl⟩
      ·
        refine CW.skip ?_
        refine NQ.block ?_
        refine NQ.seq ?_
        refine CW.region (ef := []) (bk := []) ?_
        refine RL.move rfl rfl rfl rfl ?_
        refine RL.binX rfl rfl rfl rfl rfl rfl (wrapV_i64 (by omega) (by omega)) ?_
        refine RL.assign rfl rfl rfl rfl ?_
        refine RL.nil ?_
        have hx : a[i] = b[i] := by simpa using hx
        refine NQ.round (g := i) (i + 1) ⟨hlt, ?_⟩ (by omega) (.cons rfl (.cons rfl (.cons rfl .nil))) (fun w h => h)
        rw [List.take_succ_eq_append_getElem hlt, List.take_succ_eq_append_getElem hlb, ht, hx]
    ·
      refine CW.exit ?_
      refine XQ.seq ?_
      refine XQ.seq ?_
      refine XQ.hit ?_
      refine NQ.seq ?_
      refine CW.only .nil ?_
      refine CW.seq ?_
      refine CW.region (ef := []) (bk := []) ?_
      refine RL.assign rfl rfl rfl rfl ?_
      refine RL.nil ?_
      refine NQ.seq ?_
      refine CW.ret ?_
      have hin : i = a.length := by simp at hlt; omega
      have he : a = b := by
        rw [hin, List.take_length] at ht
        rw [ht, List.take_of_length_le (by omega)]
      exact RQ.post (res1 rfl rfl) (Split.none _) ⟨by rw [he]; simp, rfl, rfl⟩
end Go.Proofs.YtkkfdoippibfkaaGreat

namespace Go.Proofs.YtkkfdoippibfkaaGreat
open Go.PK

def oddG (n : Int) : Bool := Bool.or (decide (n < 1)) (decide (n > 14))
theorem oddG_any (n : Int) : Spc Tryz.prog 39 #[.int .i64 n] [] [] (Is (.bool (oddG n))) := by
  refine Spc.enter Tryz.func39 rfl rfl rfl (fun w0 hw0 => ?_)
  refine CW.seq ?_
  refine CW.region (ef := []) (bk := []) ?_
  refine RL.assign rfl rfl rfl rfl ?_
  refine RL.nil ?_
  refine NQ.seq ?_
  refine CW.seq ?_
  refine CW.region (ef := []) (bk := []) ?_
  refine RL.move rfl rfl rfl rfl ?_
  refine RL.bin rfl rfl rfl rfl rfl rfl ?_
  refine RL.move rfl rfl rfl rfl ?_
  apply RL.orB (d := 5) (dp := 8) (l' := (Sq.of [6])) rfl (.cons (k := 2) rfl .nil)
  ·
    intro hb3 K3
    refine RL.move rfl rfl rfl rfl ?_
    refine RL.bin rfl rfl rfl rfl rfl rfl ?_
    refine RL.pickF rfl rfl rfl rfl rfl ?_
    exact K3 _ (.cons rfl (.cons (k := 2) rfl .nil))
  ·
    intro hb3 K3
    refine RL.skip rfl rfl rfl rfl ?_
    refine RL.skip rfl rfl rfl rfl ?_
    refine RL.pickT rfl rfl rfl rfl rfl ?_
    exact K3 _ (.cons rfl (.cons (k := 2) rfl .nil))
  refine RL.assign rfl rfl rfl rfl ?_
  refine RL.nil ?_
  refine NQ.seq ?_
  refine CW.ret ?_
  exact RQ.post (res1 rfl rfl) (Split.none _) ⟨rfl, rfl, rfl⟩

def oddGFind : List Int → Nat → Int
  | [], _ => -1
  | x :: r, i => if oddG x then (i : Int) else oddGFind r (i + 1)
theorem oddGFind_any : ∀ (l : List Int) (i : Nat), decide (oddGFind l i ≥ 0) = l.any oddG
  | [], i => rfl
  | x :: r, i => by
    rw [oddGFind, List.any_cons]
    cases h : oddG x
    · rw [if_neg (by simp), oddGFind_any r (i + 1)]; simp
    · rw [if_pos rfl]; simp
theorem oddGFind_walk (p : Option Addr) (n c : Nat) (l : List Int) (hn : l.length = n) (hb : n ≤ 1000000000) : Spc Tryz.prog 71 #[.slice p n c, .func (.func 39) #[] #[]] [sls p 1 n (ints l)] [] (Is (.int .i64 (oddGFind l 0))) := by
  subst hn
  refine Spc.enter Tryz.func71 rfl rfl rfl (fun w0 hw0 => ?_)
  refine CW.seq ?_
  refine CW.region (ef := []) (bk := []) ?_
  refine RL.assign rfl rfl rfl rfl ?_
  refine RL.nil ?_
  refine NQ.seq ?_
  refine CW.seq ?_
  refine CW.seq ?_
  refine CW.region (ef := []) (bk := []) ?_
  refine RL.move rfl rfl rfl rfl ?_
  refine RL.lenS Tryz.runUnderlying41 rfl rfl rfl rfl ?_
  refine RL.move rfl rfl rfl rfl ?_
  refine RL.nil ?_
  refine NQ.seq ?_
  refine CW.block ?_
  refine CW.loop (γ := Nat) (fun i => i ≤ l.length ∧ oddGFind l 0 = oddGFind (l.drop i) i) (fun i => [(0, .slice p l.length c), (1, .func (.func 39) #[] #[]), (7, .int .i64 (l.length : Int)), (8, .int .i64 (i : Int))]) (fun _ => [sls p 1 l.length (ints l)])
    (fun _ => []) (fun i => l.length - i) 0 ⟨by omega, by simp⟩ (.cons rfl (.cons rfl (.cons rfl (.cons rfl .nil)))) (fun w h => h) ?_
  rintro i ⟨hi, he⟩
  refine CW.fact (p := p = none → l.length = 0) (fun w hC e => sls_nil (hC.s.i _ (List.Mem.head _)) e) (fun hpp => ?_)
  refine CW.seq ?_
  refine CW.region (ef := []) (bk := []) ?_
  refine RL.bin rfl rfl rfl rfl rfl rfl ?_
  refine RL.nil ?_
  refine NQ.seq ?_
  refine CW.seq ?_
  refine CW.cond rfl (fun hlt => ?_) (fun hlt => ?_)
  ·
    have hlt : i < l.length := by simp at hlt; omega
    obtain ⟨a, rfl⟩ : ∃ a, p = some a := by
      cases p with
      | none => exact absurd (hpp rfl) (by omega)
      | some a => exact ⟨a, rfl⟩
    have hd : l.drop i = l[i] :: l.drop (i + 1) := List.drop_eq_getElem_cons hlt
    rw [hd, oddGFind] at he
    refine CW.skip ?_
    refine NQ.seq ?_
    refine CW.seq ?_
    refine CW.block ?_
    refine CW.seq ?_
    refine CW.region (ef := []) (bk := []) ?_
    refine RL.move rfl rfl rfl rfl ?_
    refine RL.assign rfl rfl rfl rfl ?_
    refine RL.nil ?_
    refine NQ.seq ?_
    refine CW.seq ?_
    refine CW.region (ef := [5]) (bk := []) ?_
    refine RL.move rfl rfl rfl rfl ?_
    refine RL.move rfl rfl rfl rfl ?_
    refine RL.move rfl rfl rfl rfl ?_
    refine RL.idx (j := i) Tryz.runUnderlying41 Tryz.sizeOf3 rfl rfl rfl rfl rfl rfl hlt ?_
    refine RL.load Tryz.isAgg3 rfl rfl rfl rfl (Rd.getS (by repeat (first | exact List.Mem.head _ | apply List.Mem.tail)) (show (ints l)[i * 1]? = some (.int .i64 l[i]) by rw [Nat.mul_one, List.getElem?_map, List.getElem?_eq_getElem hlt]; rfl)) ?_
    refine RL.callvF (oddG_any l[i]) Tryz.call39 rfl rfl rfl rfl rfl (by repeat (first | exact Lend.nil | (refine Lend.inI ?_ ?_; (solve | (repeat (first | exact List.Mem.head _ | apply List.Mem.tail)))) | (refine Lend.inH ?_ ?_; (solve | (repeat (first | exact List.Mem.head _ | apply List.Mem.tail)))))) ?_
    refine RL.nil ?_
    refine NQ.seq ?_
    refine CW.only (.cons (k := 0) rfl (.cons (k := 1) rfl (.cons (k := 5) rfl (.cons (k := 7) rfl (.cons (k := 8) rfl (.cons (k := 16) rfl .nil)))))) ?_
    refine CW.cond rfl (fun ho => ?_) (fun ho => ?_)
    ·
      refine CW.seq ?_
      refine CW.region (ef := []) (bk := []) ?_
      refine RL.move rfl rfl rfl rfl ?_
      refine RL.assign rfl rfl rfl rfl ?_
      refine RL.nil ?_
      refine NQ.seq ?_
      refine CW.ret ?_
      refine RQ.block ?_
      refine RQ.seq ?_
      refine RQ.seq ?_
      refine RQ.block ?_
      refine RQ.seq ?_
      rw [if_pos ho] at he
      exact RQ.post (res1 rfl rfl) (Split.none _) ⟨by rw [he], rfl, rfl⟩
    ·
      refine CW.skip ?_
      refine NQ.block ?_
      refine NQ.seq ?_
      refine CW.region (ef := []) (bk := []) ?_
      refine RL.binX rfl rfl rfl rfl rfl rfl (wrapV_i64 (by omega) (by omega)) ?_
      refine RL.move rfl rfl rfl rfl ?_
      refine RL.nil ?_
      rw [if_neg (by rw [ho]; decide)] at he
      refine NQ.round (g := i) (i + 1) ⟨hlt, he⟩ (by show l.length - (i + 1) < l.length - i; omega) (.cons rfl (.cons rfl (.cons rfl (.cons rfl .nil)))) (fun w h => h)
  ·
    refine CW.exit ?_
    refine XQ.seq ?_
    refine XQ.seq ?_
    refine XQ.hit ?_
    refine NQ.seq ?_
    refine CW.seq ?_
    refine CW.region (ef := []) (bk := []) ?_
    refine RL.assign rfl rfl rfl rfl ?_
    refine RL.nil ?_
    refine NQ.seq ?_
    refine CW.ret ?_
    have hin : i = l.length := by simp at hlt; omega
    subst hin
    rw [List.drop_length] at he
    exact RQ.post (res1 rfl rfl) (Split.none _) ⟨by rw [he]; rfl, rfl, rfl⟩
theorem oddGHas_walk (p : Option Addr) (n c : Nat) (l : List Int) (hn : l.length = n) (hb : n ≤ 1000000000) : Spc Tryz.prog 40 #[.slice p n c, .func (.func 39) #[] #[]] [sls p 1 n (ints l)] [] (Is (.bool (l.any oddG))) := by
  refine Spc.enter Tryz.func40 rfl rfl rfl (fun w0 hw0 => ?_)
  refine CW.seq ?_
  refine CW.region (ef := []) (bk := []) ?_
  refine RL.assign rfl rfl rfl rfl ?_
  refine RL.nil ?_
  refine NQ.seq ?_
  refine CW.seq ?_
  refine CW.region (ef := []) (bk := []) ?_
  refine RL.move rfl rfl rfl rfl ?_
  refine RL.move rfl rfl rfl rfl ?_
  refine RL.callvq (oddGFind_walk p n c l hn hb) Tryz.call71 rfl rfl rfl rfl ?_
  refine RL.bin rfl rfl rfl rfl rfl rfl ?_
  refine RL.assign rfl rfl rfl rfl ?_
  refine RL.nil ?_
  refine NQ.seq ?_
  refine CW.only (.cons (k := 4) rfl .nil) ?_
  refine CW.ret ?_
  exact RQ.post (res1 rfl rfl) (Split.none _) ⟨by rw [← oddGFind_any l 0], rfl, rfl⟩
end Go.Proofs.YtkkfdoippibfkaaGreat
