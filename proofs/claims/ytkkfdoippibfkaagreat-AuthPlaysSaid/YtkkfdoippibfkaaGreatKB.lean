import Derived.Test.YtkkfdoippibfkaaGreatKA
namespace Go.Proofs.YtkkfdoippibfkaaGreat
open Go.PK

/-! ### The reference: sources in a row ('b' says nothing) -/
def One.rc (o : One) : List Value := .int .i64 (o.s : Int) :: (bytes o.k ++ [.int .u32 (o.e : Int), .int .i64 o.g])
theorem rc_len {o : One} (h : o.k.length = 32) : o.rc.length = 35 := by simp [One.rc, h]
abbrev rcs (R : List One) : List Value := R.flatMap One.rc
abbrev RefK (y : Nat) (R : List One) (ob : Option Nat) (cp : Nat) : List It := [cel y [slO ob R.length cp] 83, own ob cp 131 35 R.length (rcs R)]
def ROk (R : List One) : Prop := ∀ o ∈ R, o.k.length = 32
theorem rc_row {R : List One} (h : ROk R) : ∀ o ∈ R, (One.rc o).length = 35 := fun o ho => rc_len (h o ho)
theorem rc_at {R : List One} (h : ROk R) {i : Nat} {o : One} (hi : R[i]? = some o) : ∀ (j : Nat) (u : Value), o.rc[j]? = some u → (rcs R)[0 + i * 35 + j]? = some u := fun j u hj => by
  have hm := List.mem_of_getElem? hi
  have hlt : j < 35 := by rw [← rc_len (h o hm)]; exact (List.getElem?_eq_some_iff.1 hj).1
  rw [Nat.zero_add, get_flat (rc_row h) hi hlt]; exact hj
theorem rc_s (o : One) : o.rc[0]? = some (.int .i64 (o.s : Int)) := rfl
theorem rc_e {o : One} (h : o.k.length = 32) : o.rc[33]? = some (.int .u32 (o.e : Int)) := by simp [One.rc, List.getElem?_append, h]
theorem rc_g {o : One} (h : o.k.length = 32) : o.rc[34]? = some (.int .i64 o.g) := by simp [One.rc, List.getElem?_append, h]
theorem rc_rd {I : List It} {R : List One} {ba cp i j : Nat} {o : One} {e : TypeId} {u : Value} (h : ROk R) (hm : own (some ba) cp e 35 R.length (rcs R) ∈ I) (hi : R[i]? = some o) (hj : o.rc[j]? = some u) : RdI I ⟨ba, 0 + i * 35 + j, none⟩ u :=
  ⟨fun _ w hw => by
    have := (own_sls (hw.i _ hm)).2.2 (i * 35 + j) u (by have := rc_at h hi j u hj; rwa [Nat.zero_add] at this)
    rw [Nat.add_assoc, ← add_none]; exact this⟩
/-- A source's place. -/
def atN (R : List One) (s : Int) : Option Nat := R.findIdx? fun o => (o.s : Int) == s
def atI (R : List One) (s : Int) : Int := match atN R s with
  | none => -1
  | some i => (i : Int)
theorem rat_any (y : Nat) (R : List One) (ob : Option Nat) (cp : Nat) (s : Int) (hR : ROk R) (hl : R.length ≤ 1000000) : Spc Tryz.prog 53 #[.pointer (some ⟨y, 0, none⟩), .int .i64 s] (RefK y R ob cp) [] (Is (.int .i64 (atI R s))) := by
  refine Spc.enter Tryz.func53 rfl rfl rfl (fun w0 hw0 => ?_)
  refine CW.seq ?_
  refine CW.region (ef := []) (bk := []) ?_
  refine RL.assign rfl rfl rfl rfl ?_
  refine RL.nil ?_
  refine NQ.seq ?_
  refine CW.seq ?_
  refine CW.seq ?_
  refine CW.region (ef := []) (bk := []) ?_
  refine RL.assign rfl rfl rfl rfl ?_
  refine RL.nil ?_
  refine NQ.seq ?_
  refine CW.block ?_
  refine CW.loop (γ := Nat) (fun i => i ≤ R.length ∧ ∀ (j : Nat) (o : One), j < i → R[j]? = some o → (o.s : Int) ≠ s) (fun i => [(0, .pointer (some ⟨y, 0, none⟩)), (1, .int .i64 s), (5, .int .i64 (i : Int))]) (fun _ => RefK y R ob cp) (fun _ => []) (fun i => R.length - i) 0 ⟨by omega, by omega⟩ (.cons rfl (.cons rfl (.cons rfl .nil))) (fun _ h => h) ?_
  rintro i ⟨hi, hn⟩
  refine CW.fact (p := ob = none → R.length = 0) (fun w hC e => by
    have := own_sls (hC.s.i (own ob cp 131 35 R.length (rcs R)) (by repeat (first | exact List.Mem.head _ | apply List.Mem.tail)))
    exact sls_nil this (by rw [e]; rfl)) (fun hpa => ?_)
  refine CW.seq ?_
  refine CW.seq ?_
  refine CW.region (ef := []) (bk := []) ?_
  refine RL.move rfl rfl rfl rfl ?_
  refine RL.move rfl rfl rfl rfl ?_
  refine RL.nilCheck rfl rfl rfl rfl ?_
  refine RL.fieldAddr fa_83_0 rfl rfl rfl rfl ?_
  refine RL.loadq Tryz.isAgg81 rfl rfl rfl rfl ?_
  refine RL.lenS Tryz.runUnderlying81 rfl rfl rfl rfl ?_
  refine RL.bin rfl rfl rfl rfl rfl rfl ?_
  refine RL.nil ?_
  refine NQ.seq ?_
  refine CW.only (.cons (k := 0) rfl (.cons (k := 1) rfl (.cons (k := 5) rfl (.cons (k := 12) rfl .nil)))) ?_
  refine CW.cond rfl (fun hlt => ?_) (fun hlt => ?_)
  ·
    have hlt : i < R.length := by simp at hlt; omega
    cases ob with
    | none => exact absurd (hpa rfl) (by omega)
    | some ba =>
    have hx := List.getElem?_eq_getElem hlt
    generalize R[i] = o at hx
    have hk := hR o (List.mem_of_getElem? hx)
    have q : RdI (RefK y R (some ba) cp) ⟨ba, 0 + i * 35 + 0, none⟩ (.int .i64 (o.s : Int)) := rc_rd hR (show own (some ba) cp 131 35 R.length (rcs R) ∈ RefK y R (some ba) cp from (by repeat (first | exact List.Mem.head _ | apply List.Mem.tail))) hx (rc_s o)
    refine CW.skip ?_
    refine NQ.seq ?_
    refine CW.seq ?_
    refine CW.block ?_
    refine CW.seq ?_
    refine CW.region (ef := []) (bk := []) ?_
    refine RL.move rfl rfl rfl rfl ?_
    refine RL.nilCheck rfl rfl rfl rfl ?_
    refine RL.fieldAddr fa_83_0 rfl rfl rfl rfl ?_
    refine RL.loadq Tryz.isAgg81 rfl rfl rfl rfl ?_
    refine RL.move rfl rfl rfl rfl ?_
    refine RL.idxAt (j := i) Tryz.runUnderlying81 Tryz.sizeOf131 rfl rfl rfl rfl rfl rfl (hlt) ?_
    refine RL.fieldAddr fa_131_0 rfl rfl rfl rfl ?_
    refine RL.loadq Tryz.isAgg3 rfl rfl rfl rfl ?_
    refine RL.move rfl rfl rfl rfl ?_
    refine RL.bin rfl rfl rfl rfl rfl rfl ?_
    refine RL.nil ?_
    refine NQ.seq ?_
    refine CW.only (.cons (k := 0) rfl (.cons (k := 1) rfl (.cons (k := 5) rfl (.cons (k := 24) rfl .nil)))) ?_
    refine CW.cond rfl (fun he => ?_) (fun he => ?_)
    ·
      refine CW.seq ?_
      refine CW.region (ef := []) (bk := []) ?_
      refine RL.move rfl rfl rfl rfl ?_
      refine RL.assign rfl rfl rfl rfl ?_
      refine RL.nil ?_
      refine NQ.seq ?_
      refine CW.ret ?_
      refine RQ.block ?_
      refine RQ.seq ?_
      refine RQ.seq ?_
      refine RQ.block ?_
      refine RQ.seq ?_
      have he : (o.s : Int) = s := by simpa using he
      have hat : atN R s = some i := by
        rw [atN, List.findIdx?_eq_some_iff_getElem]
        obtain ⟨h1, h2⟩ := List.getElem?_eq_some_iff.1 hx
        exact ⟨h1, by rw [h2]; simpa using he, fun j hj => by have := hn j _ hj (List.getElem?_eq_getElem (by omega)); simpa using this⟩
      exact RQ.post (res1 rfl rfl) (Split.none _) ⟨by rw [atI, hat], rfl, rfl⟩
    ·
      refine CW.skip ?_
      refine NQ.block ?_
      refine NQ.seq ?_
      refine CW.region (ef := []) (bk := []) ?_
      refine RL.move rfl rfl rfl rfl ?_
      refine RL.binX rfl rfl rfl rfl rfl rfl (wrapV_i64 (by omega) (by omega)) ?_
      refine RL.assign rfl rfl rfl rfl ?_
      refine RL.nil ?_
      have he : (o.s : Int) ≠ s := by simpa using he
      refine NQ.round (g := i) (i + 1) ⟨hlt, fun j x hj hjx => ?_⟩ (by omega) (.cons rfl (.cons rfl (.cons rfl .nil))) (fun _ h => h)
      by_cases hji : j = i
      · subst hji; rw [hx] at hjx; cases hjx; exact he
      · exact hn j x (by omega) hjx
  ·
    have hin : i = R.length := by simp at hlt; omega
    subst hin
    refine CW.exit ?_
    refine XQ.seq ?_
    refine XQ.seq ?_
    refine XQ.hit ?_
    refine NQ.seq ?_
    refine CW.seq ?_
    refine CW.region (ef := []) (bk := []) ?_
    refine RL.assign rfl rfl rfl rfl ?_
    refine RL.nil ?_
    refine NQ.seq ?_
    refine CW.ret ?_
    have hat : atN R s = none := by
      rw [atN, List.findIdx?_eq_none_iff]
      intro x hx
      obtain ⟨j, hj, rfl⟩ := List.getElem_of_mem hx
      have := hn j _ hj (List.getElem?_eq_getElem hj)
      simpa using this
    exact RQ.post (res1 rfl rfl) (Split.none _) ⟨by rw [atI, hat], rfl, rfl⟩
end Go.Proofs.YtkkfdoippibfkaaGreat

namespace Go.Proofs.YtkkfdoippibfkaaGreat
open Go.PK

theorem atN_spec : ∀ (R : List One) (s : Int), (atN R s = none ∧ atO R s = none) ∨ ∃ i o, atN R s = some i ∧ R[i]? = some o ∧ atO R s = some o
  | [], _ => .inl ⟨rfl, rfl⟩
  | a :: R, s => by
    by_cases h : (a.s : Int) = s
    · exact .inr ⟨0, a, by simp [atN, List.findIdx?_cons, h], rfl, by simp [atO, h]⟩
    · rcases atN_spec R s with ⟨h1, h2⟩ | ⟨i, o, h1, h2, h3⟩
      · rw [atN] at h1; rw [atO] at h2
        exact .inl ⟨by simp [atN, List.findIdx?_cons, h, h1], by simp [atO, h, h2]⟩
      · rw [atN] at h1; rw [atO] at h3
        exact .inr ⟨i + 1, o, by simp [atN, List.findIdx?_cons, h, h1], by simpa using h2, by simp [atO, h, h3]⟩
def epochR (R : List One) (s : Int) : Nat := match atO R s with
  | none => 0
  | some o => o.e
theorem repoch_any (y : Nat) (R : List One) (ob : Option Nat) (cp : Nat) (s : Int) (hR : ROk R) (hl : R.length ≤ 1000000) : Spc Tryz.prog 28 #[.pointer (some ⟨y, 0, none⟩), .int .i64 s] (RefK y R ob cp) [] (Is (.int .u32 (epochR R s : Int))) := by
  refine Spc.enter Tryz.func28 rfl rfl rfl (fun w0 hw0 => ?_)
  refine CW.seq ?_
  refine CW.region (ef := []) (bk := []) ?_
  refine RL.assign rfl rfl rfl rfl ?_
  refine RL.nil ?_
  refine NQ.seq ?_
  refine CW.seq ?_
  rcases atN_spec R s with ⟨h1, h2⟩ | ⟨i, o, h1, h2, h3⟩
  · have hat : atI R s = -1 := by rw [atI, h1]
    refine CW.region (ef := []) (bk := []) ?_
    refine RL.move rfl rfl rfl rfl ?_
    refine RL.move rfl rfl rfl rfl ?_
    refine RL.callvq (rat_any y R ob cp s hR hl) Tryz.call53 rfl rfl rfl rfl ?_
    refine RL.assign rfl rfl rfl rfl ?_
    refine RL.nil ?_
    refine NQ.seq ?_
    refine CW.seq ?_
    refine CW.seq ?_
    rw [hat]
    refine CW.region (ef := []) (bk := []) ?_
    refine RL.move rfl rfl rfl rfl ?_
    refine RL.bin rfl rfl rfl rfl rfl rfl ?_
    refine RL.nil ?_
    refine NQ.seq ?_
    refine CW.condT rfl ((by simp)) ?_
    refine CW.seq ?_
    refine CW.region (ef := []) (bk := []) ?_
    refine RL.assign rfl rfl rfl rfl ?_
    refine RL.nil ?_
    refine NQ.seq ?_
    refine CW.only (.cons (k := 0) rfl (.cons (k := 4) rfl (.cons (k := 5) rfl .nil))) ?_
    refine CW.ret ?_
    refine RQ.seq ?_
    exact RQ.post (res1 rfl rfl) (Split.none _) ⟨by rw [epochR, h2]; rfl, rfl, rfl⟩
  ·
    have hat : atI R s = (i : Int) := by rw [atI, h1]
    have hlt : i < R.length := (List.getElem?_eq_some_iff.1 h2).1
    refine CW.fact (p := ob = none → R.length = 0) (fun w hC e => by
      have := own_sls (hC.s.i (own ob cp 131 35 R.length (rcs R)) (by repeat (first | exact List.Mem.head _ | apply List.Mem.tail)))
      exact sls_nil this (by rw [e]; rfl)) (fun hpa => ?_)
    refine CW.region (ef := []) (bk := []) ?_
    refine RL.move rfl rfl rfl rfl ?_
    refine RL.move rfl rfl rfl rfl ?_
    refine RL.callvq (rat_any y R ob cp s hR hl) Tryz.call53 rfl rfl rfl rfl ?_
    refine RL.assign rfl rfl rfl rfl ?_
    refine RL.nil ?_
    refine NQ.seq ?_
    refine CW.seq ?_
    refine CW.seq ?_
    rw [hat]
    cases ob with
    | none => exact absurd (hpa rfl) (by omega)
    | some ba =>
    have hk := hR o (List.mem_of_getElem? h2)
    have q : RdI (RefK y R (some ba) cp) ⟨ba, 0 + i * 35 + 33, none⟩ (.int .u32 (o.e : Int)) := rc_rd hR (show own (some ba) cp 131 35 R.length (rcs R) ∈ RefK y R (some ba) cp from (by repeat (first | exact List.Mem.head _ | apply List.Mem.tail))) h2 (rc_e hk)
    refine CW.region (ef := []) (bk := []) ?_
    refine RL.move rfl rfl rfl rfl ?_
    refine RL.bin rfl rfl rfl rfl rfl rfl ?_
    refine RL.nil ?_
    refine NQ.seq ?_
    refine CW.condF rfl ((by simp)) ?_
    refine CW.skip ?_
    refine NQ.seq ?_
    refine CW.only (.cons (k := 0) rfl (.cons (k := 5) rfl .nil)) ?_
    refine CW.seq ?_
    refine CW.region (ef := []) (bk := []) ?_
    refine RL.move rfl rfl rfl rfl ?_
    refine RL.nilCheck rfl rfl rfl rfl ?_
    refine RL.fieldAddr fa_83_0 rfl rfl rfl rfl ?_
    refine RL.loadq Tryz.isAgg81 rfl rfl rfl rfl ?_
    refine RL.move rfl rfl rfl rfl ?_
    refine RL.idxAt (j := i) Tryz.runUnderlying81 Tryz.sizeOf131 rfl rfl rfl rfl rfl rfl (hlt) ?_
    refine RL.fieldAddr fa_131_2 rfl rfl rfl rfl ?_
    refine RL.loadq Tryz.isAgg32 rfl rfl rfl rfl ?_
    refine RL.assign rfl rfl rfl rfl ?_
    refine RL.nil ?_
    refine NQ.seq ?_
    refine CW.only (.cons (k := 4) rfl .nil) ?_
    refine CW.ret ?_
    exact RQ.post (res1 rfl rfl) (Split.none _) ⟨by rw [epochR, h3], rfl, rfl⟩
end Go.Proofs.YtkkfdoippibfkaaGreat

namespace Go.Proofs.YtkkfdoippibfkaaGreat
open Go.PK

theorem rc_setE {o : One} (h : o.k.length = 32) (e' : Nat) : spl o.rc 33 [.int .u32 (e' : Int)] = ({ o with e := e' } : One).rc := by
  have h' : (bytes o.k).length = 32 := by rw [List.length_map, h]
  rw [spl_eq _ _ _ (by simp [One.rc, h])]
  simp only [One.rc]
  generalize bytes o.k = K at h'
  rw [show (33 : Nat) = 32 + 1 from rfl, List.take_succ_cons, List.take_left' h']
  simp [List.drop_append, h']
theorem rc_setG {o : One} (h : o.k.length = 32) (g' : Int) : spl o.rc 34 [.int .i64 g'] = ({ o with g := g' } : One).rc := by
  have h' : (bytes o.k).length = 32 := by rw [List.length_map, h]
  rw [spl_eq _ _ _ (by simp [One.rc, h])]
  simp only [One.rc]
  generalize bytes o.k = K at h'
  rw [show (34 : Nat) = 33 + 1 from rfl, List.take_succ_cons, List.take_append, List.take_of_length_le (by omega), h']
  simp [List.drop_append, h']
theorem rcs_app (A B : List One) : rcs (A ++ B) = rcs A ++ rcs B := List.flatMap_append
theorem rcs_split {R : List One} (hR : ROk R) {i : Nat} {o : One} (hi : R[i]? = some o) : ∃ A B, R = A ++ o :: B ∧ A.length = i ∧ (rcs A).length = i * 35 := by
  obtain ⟨hlt, rfl⟩ := List.getElem?_eq_some_iff.1 hi
  refine ⟨R.take i, R.drop (i + 1), ?_, by simp; omega, ?_⟩
  · rw [← List.drop_eq_getElem_cons hlt, List.take_append_drop]
  · rw [length_flat (n := 35) (fun o ho => rc_len (hR o (List.mem_of_mem_take ho))), List.length_take, Nat.min_eq_left (by omega)]
theorem rcs_setE {R : List One} (hR : ROk R) {i : Nat} {o : One} (hi : R[i]? = some o) (e' : Nat) : spl (rcs R) (i * 35 + 33) [.int .u32 (e' : Int)] = rcs (R.set i { o with e := e' }) := by
  obtain ⟨A, B, rfl, hA, hl⟩ := rcs_split hR hi
  have hk := hR o (by simp)
  have h1 : rcs (A ++ o :: B) = (rcs A ++ (.int .i64 (o.s : Int) :: bytes o.k)) ++ ([.int .u32 (o.e : Int)] ++ (.int .i64 o.g :: rcs B)) := by
    rw [rcs_app]; simp [rcs, One.rc]
  have h2 : (A ++ o :: B).set i { o with e := e' } = A ++ { o with e := e' } :: B := by rw [← hA]; simp
  rw [h1, h2, seg_spl (B := [.int .u32 (o.e : Int)]) (B' := [.int .u32 (e' : Int)]) (by simp [hl, hk]) rfl, rcs_app]
  simp [rcs, One.rc]
theorem rcs_setG {R : List One} (hR : ROk R) {i : Nat} {o : One} (hi : R[i]? = some o) (g' : Int) : spl (rcs R) (i * 35 + 34) [.int .i64 g'] = rcs (R.set i { o with g := g' }) := by
  obtain ⟨A, B, rfl, hA, hl⟩ := rcs_split hR hi
  have hk := hR o (by simp)
  have h1 : rcs (A ++ o :: B) = (rcs A ++ (.int .i64 (o.s : Int) :: (bytes o.k ++ [.int .u32 (o.e : Int)]))) ++ ([.int .i64 o.g] ++ rcs B) := by
    rw [rcs_app]; simp [rcs, One.rc]
  have h2 : (A ++ o :: B).set i { o with g := g' } = A ++ { o with g := g' } :: B := by rw [← hA]; simp
  rw [h1, h2, seg_spl (B := [.int .i64 o.g]) (B' := [.int .i64 g']) (by simp [hl, hk]) rfl, rcs_app]
  simp [rcs, One.rc]
end Go.Proofs.YtkkfdoippibfkaaGreat

namespace Go.Proofs.YtkkfdoippibfkaaGreat
open Go.PK

theorem rc_rdH {I H : List It} {R : List One} {ba cp i j : Nat} {o : One} {e : TypeId} {u : Value} (h : ROk R) (hm : own (some ba) cp e 35 R.length (rcs R) ∈ H) (hi : R[i]? = some o) (hj : o.rc[j]? = some u) : Rd I H ⟨ba, 0 + i * 35 + j, none⟩ u := fun w hw => by
    have := (own_sls (hw.h _ hm)).2.2 (i * 35 + j) u (by have := rc_at h hi j u hj; rwa [Nat.zero_add] at this)
    rw [Nat.add_assoc, ← add_none]; exact this
def setR (R : List One) (s : Int) (e' : Nat) (g' : Int) : List One := match atN R s, atO R s with
  | some i, some o => R.set i { o with e := e', g := g' }
  | _, _ => R
def rraiseE (R : List One) (s : Int) (e' : Nat) : Int := if mayB s = true then match atO R s with
  | none => 5
  | some o => if e' < o.e then 160 else 0 else 2
def rraiseR (R : List One) (s : Int) (e' : Nat) : List One := if mayB s = true then match atO R s with
  | none => R
  | some o => if o.e < e' then setR R s e' (-1) else R else R
def RefR (y : Nat) (R : List One) (x : Int) : Value → List It → List It → Prop := fun v I' H' => v = .int .i64 x ∧ I' = [] ∧ ∃ ob cp, H' = RefK y R ob cp
theorem rraise_any (y : Nat) (R : List One) (ob : Option Nat) (cp : Nat) (s : Int) (e' : Nat) (hR : ROk R) (hl : R.length ≤ 1000000) :
    Spc Tryz.prog 59 #[.pointer (some ⟨y, 0, none⟩), .int .i64 s, .int .u32 (e' : Int)] [] (RefK y R ob cp) (RefR y (rraiseR R s e') (rraiseE R s e')) := by
  refine Spc.enter Tryz.func59 rfl rfl rfl (fun w0 hw0 => ?_)
  refine CW.seq ?_
  refine CW.region (ef := []) (bk := []) ?_
  refine RL.assign rfl rfl rfl rfl ?_
  refine RL.nil ?_
  refine NQ.seq ?_
  refine CW.seq ?_
  refine CW.seq ?_
  refine CW.region (ef := []) (bk := []) ?_
  refine RL.move rfl rfl rfl rfl ?_
  refine RL.callvq (rmay_any s) Tryz.call55 rfl rfl rfl rfl ?_
  refine RL.not rfl rfl rfl rfl ?_
  refine RL.nil ?_
  refine NQ.seq ?_
  refine CW.cond rfl (fun hm => ?_) (fun hm => ?_)
  ·
    refine CW.seq ?_
    refine CW.region (ef := []) (bk := []) ?_
    refine RL.assign rfl rfl rfl rfl ?_
    refine RL.nil ?_
    refine NQ.seq ?_
    refine CW.ret ?_
    refine RQ.seq ?_
    have hm : ¬ mayB s = true := by simpa using hm
    exact RQ.post (res1 rfl rfl) (.keep (.keep .nil)) ⟨by rw [rraiseE, if_neg hm], rfl, ob, cp, by rw [rraiseR, if_neg hm]⟩
  ·
    have hm : mayB s = true := by simpa using hm
    rcases atN_spec R s with ⟨h1, h2⟩ | ⟨i, o, h1, h2, h3⟩
    · have hat : atI R s = -1 := by rw [atI, h1]
      refine CW.skip ?_
      refine NQ.seq ?_
      refine CW.seq ?_
      refine CW.region (ef := []) (bk := []) ?_
      refine RL.move rfl rfl rfl rfl ?_
      refine RL.move rfl rfl rfl rfl ?_
      refine RL.callvq (rat_any y R ob cp s hR hl) Tryz.call53 rfl rfl rfl rfl ?_
      refine RL.assign rfl rfl rfl rfl ?_
      refine RL.nil ?_
      refine NQ.seq ?_
      refine CW.only (.cons (k := 0) rfl (.cons (k := 2) rfl (.cons (k := 7) rfl .nil))) ?_
      refine CW.seq ?_
      refine CW.seq ?_
      rw [hat]
      refine CW.region (ef := []) (bk := []) ?_
      refine RL.move rfl rfl rfl rfl ?_
      refine RL.bin rfl rfl rfl rfl rfl rfl ?_
      refine RL.nil ?_
      refine NQ.seq ?_
      refine CW.condT rfl ((by simp)) ?_
      refine CW.seq ?_
      refine CW.region (ef := []) (bk := []) ?_
      refine RL.assign rfl rfl rfl rfl ?_
      refine RL.nil ?_
      refine NQ.seq ?_
      refine CW.ret ?_
      refine RQ.seq ?_
      exact RQ.post (res1 rfl rfl) (.keep (.keep .nil)) ⟨by rw [rraiseE, if_pos hm, h2], rfl, ob, cp, by rw [rraiseR, if_pos hm, h2]⟩
    ·
      have hat : atI R s = (i : Int) := by rw [atI, h1]
      have hlt : i < R.length := (List.getElem?_eq_some_iff.1 h2).1
      refine CW.fact (p := ob = none → R.length = 0) (fun w hC e => by
        have := own_sls (hC.s.h (own ob cp 131 35 R.length (rcs R)) (by repeat (first | exact List.Mem.head _ | apply List.Mem.tail)))
        exact sls_nil this (by rw [e]; rfl)) (fun hpa => ?_)
      refine CW.skip ?_
      refine NQ.seq ?_
      refine CW.seq ?_
      refine CW.region (ef := []) (bk := []) ?_
      refine RL.move rfl rfl rfl rfl ?_
      refine RL.move rfl rfl rfl rfl ?_
      refine RL.callvq (rat_any y R ob cp s hR hl) Tryz.call53 rfl rfl rfl rfl ?_
      refine RL.assign rfl rfl rfl rfl ?_
      refine RL.nil ?_
      refine NQ.seq ?_
      refine CW.only (.cons (k := 0) rfl (.cons (k := 2) rfl (.cons (k := 7) rfl .nil))) ?_
      refine CW.seq ?_
      refine CW.seq ?_
      rw [hat]
      cases ob with
      | none => exact absurd (hpa rfl) (by omega)
      | some ba =>
      have hk := hR o (List.mem_of_getElem? h2)
      have q : Rd [] (RefK y R (some ba) cp) ⟨ba, 0 + i * 35 + 33, none⟩ (.int .u32 (o.e : Int)) := rc_rdH hR (show own (some ba) cp 131 35 R.length (rcs R) ∈ RefK y R (some ba) cp from (by repeat (first | exact List.Mem.head _ | apply List.Mem.tail))) h2 (rc_e hk)
      refine CW.region (ef := []) (bk := []) ?_
      refine RL.move rfl rfl rfl rfl ?_
      refine RL.bin rfl rfl rfl rfl rfl rfl ?_
      refine RL.nil ?_
      refine NQ.seq ?_
      refine CW.condF rfl ((by simp)) ?_
      refine CW.skip ?_
      refine NQ.seq ?_
      refine CW.seq ?_
      refine CW.seq ?_
      refine CW.region (ef := []) (bk := []) ?_
      refine RL.move rfl rfl rfl rfl ?_
      refine RL.move rfl rfl rfl rfl ?_
      refine RL.nilCheck rfl rfl rfl rfl ?_
      refine RL.fieldAddr fa_83_0 rfl rfl rfl rfl ?_
      refine RL.loadq Tryz.isAgg81 rfl rfl rfl rfl ?_
      refine RL.move rfl rfl rfl rfl ?_
      refine RL.idxAt (j := i) Tryz.runUnderlying81 Tryz.sizeOf131 rfl rfl rfl rfl rfl rfl (hlt) ?_
      refine RL.fieldAddr fa_131_2 rfl rfl rfl rfl ?_
      refine RL.loadq Tryz.isAgg32 rfl rfl rfl rfl ?_
      refine RL.bin rfl rfl rfl rfl rfl rfl ?_
      refine RL.nil ?_
      refine NQ.seq ?_
      refine CW.only (.cons (k := 0) rfl (.cons (k := 2) rfl (.cons (k := 7) rfl (.cons (k := 25) rfl .nil)))) ?_
      refine CW.cond rfl (fun h4 => ?_) (fun h4 => ?_)
      ·
        refine CW.seq ?_
        refine CW.region (ef := []) (bk := []) ?_
        refine RL.assign rfl rfl rfl rfl ?_
        refine RL.nil ?_
        refine NQ.seq ?_
        refine CW.ret ?_
        refine RQ.seq ?_
        have h4 : e' < o.e := by simp at h4; omega
        exact RQ.post (res1 rfl rfl) (.keep (.keep .nil)) ⟨by rw [rraiseE, if_pos hm, h3]; dsimp only; rw [if_pos h4], rfl, some ba, cp, by rw [rraiseR, if_pos hm, h3]; dsimp only; rw [if_neg (by omega)]⟩
      ·
        refine CW.skip ?_
        refine NQ.seq ?_
        refine CW.seq ?_
        refine CW.seq ?_
        refine CW.region (ef := []) (bk := []) ?_
        refine RL.move rfl rfl rfl rfl ?_
        refine RL.move rfl rfl rfl rfl ?_
        refine RL.nilCheck rfl rfl rfl rfl ?_
        refine RL.fieldAddr fa_83_0 rfl rfl rfl rfl ?_
        refine RL.loadq Tryz.isAgg81 rfl rfl rfl rfl ?_
        refine RL.move rfl rfl rfl rfl ?_
        refine RL.idxAt (j := i) Tryz.runUnderlying81 Tryz.sizeOf131 rfl rfl rfl rfl rfl rfl (hlt) ?_
        refine RL.fieldAddr fa_131_2 rfl rfl rfl rfl ?_
        refine RL.loadq Tryz.isAgg32 rfl rfl rfl rfl ?_
        refine RL.bin rfl rfl rfl rfl rfl rfl ?_
        refine RL.nil ?_
        refine NQ.seq ?_
        refine CW.only (.cons (k := 0) rfl (.cons (k := 2) rfl (.cons (k := 7) rfl (.cons (k := 35) rfl .nil)))) ?_
        have h4 : ¬ e' < o.e := by simp at h4; omega
        refine CW.cond rfl (fun h5 => ?_) (fun h5 => ?_)
        ·
          refine CW.regionD (Sq.of [0, 1, 2, 3, 4, 5, 6, 7, 8, 9, 10, 11, 12, 13, 14, 15, 16]) [13, 16] [13, 16] [0, 1, 2, 4, 5, 6, 7, 9, 10, 11, 12, 14, 15] mixed (by kernel_rfl) ?_
          refine RL.move rfl rfl rfl rfl ?_
          refine RL.nilCheck rfl rfl rfl rfl ?_
          refine RL.fieldAddr fa_83_0 rfl rfl rfl rfl ?_
          refine RL.loadq Tryz.isAgg81 rfl rfl rfl rfl ?_
          refine RL.move rfl rfl rfl rfl ?_
          refine RL.move rfl rfl rfl rfl ?_
          refine RL.nilCheck rfl rfl rfl rfl ?_
          refine RL.fieldAddr fa_83_0 rfl rfl rfl rfl ?_
          refine RL.loadq Tryz.isAgg81 rfl rfl rfl rfl ?_
          refine RL.move rfl rfl rfl rfl ?_
          refine RL.move rfl rfl rfl rfl ?_
          refine RL.idxAt (j := i) Tryz.runUnderlying81 Tryz.sizeOf131 rfl rfl rfl rfl rfl rfl (hlt) ?_
          refine RL.fieldAddr fa_131_2 rfl rfl rfl rfl ?_
          have h5 : o.e < e' := by simp at h5; omega
          have hi1 : (R.set i { o with e := e' })[i]? = some { o with e := e' } := by simp [hlt]
          have hR1 : ROk (R.set i { o with e := e' }) := fun x hx => by
            rcases List.mem_or_eq_of_mem_set hx with h | h
            · exact hR x h
            · rw [h]; exact hk
          have hlen : ∀ Q : List One, ROk Q → (rcs Q).length = Q.length * 35 := fun Q hQ => length_flat (rc_row hQ)
          refine RL.storeO (off := i * 35 + 33) (vs := [_]) (rcs_setE hR h2 e') Tryz.sizeOf32 rfl rfl rfl rfl rfl (by rw [add_none, Nat.add_assoc]) rfl rfl rfl (by rw [hlen R hR]; simp; omega) (by repeat (first | exact Upd.here | apply Upd.there)) ?_
          refine RL.idxAt (j := i) Tryz.runUnderlying81 Tryz.sizeOf131 rfl rfl rfl rfl rfl rfl (hlt) ?_
          refine RL.fieldAddr fa_131_3 rfl rfl rfl rfl ?_
          refine RL.storeO (off := i * 35 + 34) (vs := [_]) (rcs_setG hR1 hi1 (-1)) Tryz.sizeOf3 rfl rfl rfl rfl rfl (by rw [add_none, Nat.add_assoc]) rfl rfl rfl (by rw [hlen _ hR1]; simp; omega) (by repeat (first | exact Upd.here | apply Upd.there)) ?_
          refine RL.nil ?_
          refine NQ.seq ?_
          refine CW.only .nil ?_
          refine CW.seq ?_
          refine CW.region (ef := []) (bk := []) ?_
          refine RL.assign rfl rfl rfl rfl ?_
          refine RL.nil ?_
          refine NQ.seq ?_
          refine CW.ret ?_
          have hset : setR R s e' (-1) = (R.set i { o with e := e' }).set i { o with e := e', g := -1 } := by rw [setR, h1, h3, List.set_set]
          exact RQ.post (res1 rfl rfl) (.keep (.keep .nil)) ⟨by rw [rraiseE, if_pos hm, h3]; dsimp only; rw [if_neg h4], rfl, some ba, cp, by rw [rraiseR, if_pos hm, h3]; dsimp only; rw [if_pos h5, hset]; simp [RefK]⟩
        ·
          refine CW.skip ?_
          refine NQ.seq ?_
          refine CW.seq ?_
          refine CW.region (ef := []) (bk := []) ?_
          refine RL.assign rfl rfl rfl rfl ?_
          refine RL.nil ?_
          refine NQ.seq ?_
          refine CW.ret ?_
          have h5 : ¬ o.e < e' := by simp at h5; omega
          exact RQ.post (res1 rfl rfl) (.keep (.keep .nil)) ⟨by rw [rraiseE, if_pos hm, h3]; dsimp only; rw [if_neg h4], rfl, some ba, cp, by rw [rraiseR, if_pos hm, h3]; dsimp only; rw [if_neg h5]⟩
end Go.Proofs.YtkkfdoippibfkaaGreat

namespace Go.Proofs.YtkkfdoippibfkaaGreat
open Go.PK

def rrollE (R : List One) (s : Int) (e' : Nat) (t g : Int) : Int := if rightR t g = true ∧ mayB s = true then match atO R s with
  | none => 5
  | some o => if o.e = 4294967295 ∨ e' ≠ o.e + 1 then 160 else 0 else 2
def rrollR (R : List One) (s : Int) (e' : Nat) (t g : Int) : List One := if rightR t g = true ∧ mayB s = true then match atO R s with
  | none => R
  | some o => if o.e = 4294967295 ∨ e' ≠ o.e + 1 then R else setR R s e' (t + g) else R
theorem rroll_any (y : Nat) (R : List One) (ob : Option Nat) (cp : Nat) (s : Int) (e' : Nat) (t g : Int) (hR : ROk R) (hE : ∀ o ∈ R, o.e < 4294967296) (hl : R.length ≤ 1000000) :
    Spc Tryz.prog 30 #[.pointer (some ⟨y, 0, none⟩), .int .i64 s, .int .u32 (e' : Int), .int .i64 t, .int .i64 g] [] (RefK y R ob cp) (RefR y (rrollR R s e' t g) (rrollE R s e' t g)) := by
  refine Spc.enter Tryz.func30 rfl rfl rfl (fun w0 hw0 => ?_)
  refine CW.seq ?_
  refine CW.region (ef := []) (bk := []) ?_
  refine RL.assign rfl rfl rfl rfl ?_
  refine RL.nil ?_
  refine NQ.seq ?_
  refine CW.seq ?_
  refine CW.seq ?_
  refine CW.region (ef := []) (bk := []) ?_
  refine RL.move rfl rfl rfl rfl ?_
  refine RL.callvq (rmay_any s) Tryz.call55 rfl rfl rfl rfl ?_
  refine RL.not rfl rfl rfl rfl ?_
  refine RL.move rfl rfl rfl rfl ?_
  apply RL.orB (d := 15) (dp := 19) (l' := (Sq.of [8, 9, 10, 11, 12, 13, 14, 15])) rfl (.cons (k := 0) rfl (.cons (k := 1) rfl (.cons (k := 2) rfl (.cons (k := 3) rfl (.cons (k := 4) rfl (.cons (k := 10) rfl .nil))))))
  ·
    intro hb4 K4
    refine RL.move rfl rfl rfl rfl ?_
    refine RL.callvq (rktick_any t) Tryz.call56 rfl rfl rfl rfl ?_
    refine RL.not rfl rfl rfl rfl ?_
    refine RL.pickF rfl rfl rfl rfl rfl ?_
    exact K4 _ (.cons rfl (.cons (k := 0) rfl (.cons (k := 1) rfl (.cons (k := 2) rfl (.cons (k := 3) rfl (.cons (k := 4) rfl (.cons (k := 10) rfl .nil)))))))
  ·
    intro hb4 K4
    refine RL.skip rfl rfl rfl rfl ?_
    refine RL.skip rfl rfl rfl rfl ?_
    refine RL.skip rfl rfl rfl rfl ?_
    refine RL.pickT rfl rfl rfl rfl rfl ?_
    exact K4 _ (.cons rfl (.cons (k := 0) rfl (.cons (k := 1) rfl (.cons (k := 2) rfl (.cons (k := 3) rfl (.cons (k := 4) rfl (.cons (k := 10) rfl .nil)))))))
  refine RL.move rfl rfl rfl rfl ?_
  apply RL.orB (d := 20) (dp := 23) (l' := (Sq.of [12, 13, 14, 15])) rfl (.cons (k := 0) rfl (.cons (k := 1) rfl (.cons (k := 2) rfl (.cons (k := 3) rfl (.cons (k := 4) rfl (.cons (k := 10) rfl .nil))))))
  ·
    intro hb9 K9
    refine RL.move rfl rfl rfl rfl ?_
    refine RL.bin rfl rfl rfl rfl rfl rfl ?_
    refine RL.pickF rfl rfl rfl rfl rfl ?_
    exact K9 _ (.cons rfl (.cons (k := 0) rfl (.cons (k := 1) rfl (.cons (k := 2) rfl (.cons (k := 3) rfl (.cons (k := 4) rfl (.cons (k := 10) rfl .nil)))))))
  ·
    intro hb9 K9
    refine RL.skip rfl rfl rfl rfl ?_
    refine RL.skip rfl rfl rfl rfl ?_
    refine RL.pickT rfl rfl rfl rfl rfl ?_
    exact K9 _ (.cons rfl (.cons (k := 0) rfl (.cons (k := 1) rfl (.cons (k := 2) rfl (.cons (k := 3) rfl (.cons (k := 4) rfl (.cons (k := 10) rfl .nil)))))))
  refine RL.move rfl rfl rfl rfl ?_
  apply RL.orB (d := 24) (dp := 27) (l' := (Sq.of [])) rfl (.cons (k := 0) rfl (.cons (k := 1) rfl (.cons (k := 2) rfl (.cons (k := 3) rfl (.cons (k := 4) rfl (.cons (k := 10) rfl .nil))))))
  ·
    intro hb13 K13
    refine RL.move rfl rfl rfl rfl ?_
    refine RL.bin rfl rfl rfl rfl rfl rfl ?_
    refine RL.pickF rfl rfl rfl rfl rfl ?_
    exact K13 _ (.cons rfl (.cons (k := 0) rfl (.cons (k := 1) rfl (.cons (k := 2) rfl (.cons (k := 3) rfl (.cons (k := 4) rfl (.cons (k := 10) rfl .nil)))))))
  ·
    intro hb13 K13
    refine RL.skip rfl rfl rfl rfl ?_
    refine RL.skip rfl rfl rfl rfl ?_
    refine RL.pickT rfl rfl rfl rfl rfl ?_
    exact K13 _ (.cons rfl (.cons (k := 0) rfl (.cons (k := 1) rfl (.cons (k := 2) rfl (.cons (k := 3) rfl (.cons (k := 4) rfl (.cons (k := 10) rfl .nil)))))))
  refine RL.nil ?_
  refine NQ.seq ?_
  refine CW.cond rfl (fun hm => ?_) (fun hm => ?_)
  ·
    refine CW.seq ?_
    refine CW.region (ef := []) (bk := []) ?_
    refine RL.assign rfl rfl rfl rfl ?_
    refine RL.nil ?_
    refine NQ.seq ?_
    refine CW.ret ?_
    refine RQ.seq ?_
    have hm : ¬ (rightR t g = true ∧ mayB s = true) := by
      rintro ⟨e1, e2⟩; simp [rightR] at e1; simp [e1, e2] at hm; omega
    exact RQ.post (res1 rfl rfl) (.keep (.keep .nil)) ⟨by rw [rrollE, if_neg hm], rfl, ob, cp, by rw [rrollR, if_neg hm]⟩
  ·
    have hm : rightR t g = true ∧ mayB s = true := by
      simp at hm; simp [rightR, hm]
    rcases atN_spec R s with ⟨h1, h2⟩ | ⟨i, o, h1, h2, h3⟩
    · have hat : atI R s = -1 := by rw [atI, h1]
      refine CW.skip ?_
      refine NQ.seq ?_
      refine CW.seq ?_
      refine CW.region (ef := []) (bk := []) ?_
      refine RL.move rfl rfl rfl rfl ?_
      refine RL.move rfl rfl rfl rfl ?_
      refine RL.callvq (rat_any y R ob cp s hR hl) Tryz.call53 rfl rfl rfl rfl ?_
      refine RL.assign rfl rfl rfl rfl ?_
      refine RL.nil ?_
      refine NQ.seq ?_
      refine CW.only (.cons (k := 0) rfl (.cons (k := 2) rfl (.cons (k := 3) rfl (.cons (k := 4) rfl (.cons (k := 11) rfl .nil))))) ?_
      refine CW.seq ?_
      refine CW.seq ?_
      rw [hat]
      refine CW.region (ef := []) (bk := []) ?_
      refine RL.move rfl rfl rfl rfl ?_
      refine RL.bin rfl rfl rfl rfl rfl rfl ?_
      refine RL.nil ?_
      refine NQ.seq ?_
      refine CW.condT rfl ((by simp)) ?_
      refine CW.seq ?_
      refine CW.region (ef := []) (bk := []) ?_
      refine RL.assign rfl rfl rfl rfl ?_
      refine RL.nil ?_
      refine NQ.seq ?_
      refine CW.ret ?_
      refine RQ.seq ?_
      exact RQ.post (res1 rfl rfl) (.keep (.keep .nil)) ⟨by rw [rrollE, if_pos hm, h2], rfl, ob, cp, by rw [rrollR, if_pos hm, h2]⟩
    ·
      have hat : atI R s = (i : Int) := by rw [atI, h1]
      have hlt : i < R.length := (List.getElem?_eq_some_iff.1 h2).1
      refine CW.fact (p := ob = none → R.length = 0) (fun w hC e => by
        have := own_sls (hC.s.h (own ob cp 131 35 R.length (rcs R)) (by repeat (first | exact List.Mem.head _ | apply List.Mem.tail)))
        exact sls_nil this (by rw [e]; rfl)) (fun hpa => ?_)
      refine CW.skip ?_
      refine NQ.seq ?_
      refine CW.seq ?_
      refine CW.region (ef := []) (bk := []) ?_
      refine RL.move rfl rfl rfl rfl ?_
      refine RL.move rfl rfl rfl rfl ?_
      refine RL.callvq (rat_any y R ob cp s hR hl) Tryz.call53 rfl rfl rfl rfl ?_
      refine RL.assign rfl rfl rfl rfl ?_
      refine RL.nil ?_
      refine NQ.seq ?_
      refine CW.only (.cons (k := 0) rfl (.cons (k := 2) rfl (.cons (k := 3) rfl (.cons (k := 4) rfl (.cons (k := 11) rfl .nil))))) ?_
      refine CW.seq ?_
      refine CW.seq ?_
      rw [hat]
      cases ob with
      | none => exact absurd (hpa rfl) (by omega)
      | some ba =>
      have hk := hR o (List.mem_of_getElem? h2)
      have h0 := hE o (List.mem_of_getElem? h2)
      have hgt : 0 ≤ t ∧ t ≤ 1099511627776 ∧ 0 ≤ g ∧ g ≤ 65535 := by have := hm.1; simp [rightR, tickB] at this; omega
      have q : Rd [] (RefK y R (some ba) cp) ⟨ba, 0 + i * 35 + 33, none⟩ (.int .u32 (o.e : Int)) := rc_rdH hR (show own (some ba) cp 131 35 R.length (rcs R) ∈ RefK y R (some ba) cp from (by repeat (first | exact List.Mem.head _ | apply List.Mem.tail))) h2 (rc_e hk)
      have hw : o.e ≠ 4294967295 → IntKind.u32.wrap ((o.e : Int) + 1) = (o.e : Int) + 1 := fun h => by simp [IntKind.wrap, IntKind.bits, IntKind.signed]; omega
      refine CW.region (ef := []) (bk := []) ?_
      refine RL.move rfl rfl rfl rfl ?_
      refine RL.bin rfl rfl rfl rfl rfl rfl ?_
      refine RL.nil ?_
      refine NQ.seq ?_
      refine CW.condF rfl ((by simp)) ?_
      refine CW.skip ?_
      refine NQ.seq ?_
      refine CW.seq ?_
      refine CW.seq ?_
      refine CW.region (ef := []) (bk := []) ?_
      refine RL.move rfl rfl rfl rfl ?_
      refine RL.nilCheck rfl rfl rfl rfl ?_
      refine RL.fieldAddr fa_83_0 rfl rfl rfl rfl ?_
      refine RL.loadq Tryz.isAgg81 rfl rfl rfl rfl ?_
      refine RL.move rfl rfl rfl rfl ?_
      refine RL.idxAt (j := i) Tryz.runUnderlying81 Tryz.sizeOf131 rfl rfl rfl rfl rfl rfl (hlt) ?_
      refine RL.fieldAddr fa_131_2 rfl rfl rfl rfl ?_
      refine RL.loadq Tryz.isAgg32 rfl rfl rfl rfl ?_
      refine RL.bin rfl rfl rfl rfl rfl rfl ?_
      refine RL.move rfl rfl rfl rfl ?_
      refine RL.part (d := 42) rfl (fun ha => ?_) (fun ha => ?_)
      ·
        refine RL.skip rfl rfl rfl rfl ?_
        refine RL.skip rfl rfl rfl rfl ?_
        refine RL.skip rfl rfl rfl rfl ?_
        refine RL.skip rfl rfl rfl rfl ?_
        refine RL.skip rfl rfl rfl rfl ?_
        refine RL.skip rfl rfl rfl rfl ?_
        refine RL.skip rfl rfl rfl rfl ?_
        refine RL.skip rfl rfl rfl rfl ?_
        refine RL.skip rfl rfl rfl rfl ?_
        refine RL.skip rfl rfl rfl rfl ?_
        refine RL.skip rfl rfl rfl rfl ?_
        refine RL.pickT rfl rfl rfl rfl rfl ?_
        refine RL.nil ?_
        refine NQ.seq ?_
        refine CW.only (.cons (k := 0) rfl (.cons (k := 2) rfl (.cons (k := 3) rfl (.cons (k := 4) rfl (.cons (k := 11) rfl (.cons (k := 54) rfl .nil)))))) ?_
        refine CW.condT rfl rfl ?_
        refine CW.seq ?_
        refine CW.region (ef := []) (bk := []) ?_
        refine RL.assign rfl rfl rfl rfl ?_
        refine RL.nil ?_
        refine NQ.seq ?_
        refine CW.ret ?_
        refine RQ.seq ?_
        have ha : o.e = 4294967295 := by simp at ha; omega
        exact RQ.post (res1 rfl rfl) (.keep (.keep .nil)) ⟨by rw [rrollE, if_pos hm, h3]; dsimp only; rw [if_pos (.inl ha)], rfl, some ba, cp, by rw [rrollR, if_pos hm, h3]; dsimp only; rw [if_pos (.inl ha)]⟩
      ·
        refine RL.move rfl rfl rfl rfl ?_
        refine RL.move rfl rfl rfl rfl ?_
        refine RL.nilCheck rfl rfl rfl rfl ?_
        refine RL.fieldAddr fa_83_0 rfl rfl rfl rfl ?_
        refine RL.loadq Tryz.isAgg81 rfl rfl rfl rfl ?_
        refine RL.move rfl rfl rfl rfl ?_
        refine RL.idxAt (j := i) Tryz.runUnderlying81 Tryz.sizeOf131 rfl rfl rfl rfl rfl rfl (hlt) ?_
        refine RL.fieldAddr fa_131_2 rfl rfl rfl rfl ?_
        refine RL.loadq Tryz.isAgg32 rfl rfl rfl rfl ?_
        refine RL.bin rfl rfl rfl rfl rfl rfl ?_
        refine RL.bin rfl rfl rfl rfl rfl rfl ?_
        refine RL.pickF rfl rfl rfl rfl rfl ?_
        refine RL.nil ?_
        refine NQ.seq ?_
        refine CW.only (.cons (k := 0) rfl (.cons (k := 2) rfl (.cons (k := 3) rfl (.cons (k := 4) rfl (.cons (k := 11) rfl (.cons (k := 54) rfl .nil)))))) ?_
        have ha : o.e ≠ 4294967295 := by simp at ha; omega
        rw [hw ha]
        refine CW.cond rfl (fun hb => ?_) (fun hb => ?_)
        ·
          refine CW.seq ?_
          refine CW.region (ef := []) (bk := []) ?_
          refine RL.assign rfl rfl rfl rfl ?_
          refine RL.nil ?_
          refine NQ.seq ?_
          refine CW.ret ?_
          refine RQ.seq ?_
          have hb : o.e = 4294967295 ∨ e' ≠ o.e + 1 := by simp at hb; omega
          exact RQ.post (res1 rfl rfl) (.keep (.keep .nil)) ⟨by rw [rrollE, if_pos hm, h3]; dsimp only; rw [if_pos hb], rfl, some ba, cp, by rw [rrollR, if_pos hm, h3]; dsimp only; rw [if_pos hb]⟩
        ·
          have hb : ¬ (o.e = 4294967295 ∨ e' ≠ o.e + 1) := by simp at hb; omega
          have hi1 : (R.set i { o with e := e' })[i]? = some { o with e := e' } := by simp [hlt]
          have hR1 : ROk (R.set i { o with e := e' }) := fun x hx => by
            rcases List.mem_or_eq_of_mem_set hx with h | h
            · exact hR x h
            · rw [h]; exact hk
          have hlen : ∀ Q : List One, ROk Q → (rcs Q).length = Q.length * 35 := fun Q hQ => length_flat (rc_row hQ)
          refine CW.skip ?_
          refine NQ.seq ?_
          refine CW.seq ?_
          refine CW.regionD (Sq.of [0, 1, 2, 3, 4, 5, 6, 7, 8, 9, 10, 11, 12, 13, 14, 15, 16, 17, 18, 19]) [16, 19] [16, 19] [0, 1, 2, 4, 5, 6, 7, 9, 10, 11, 12, 13, 14, 15, 17, 18] mixed (by kernel_rfl) ?_
          refine RL.move rfl rfl rfl rfl ?_
          refine RL.nilCheck rfl rfl rfl rfl ?_
          refine RL.fieldAddr fa_83_0 rfl rfl rfl rfl ?_
          refine RL.loadq Tryz.isAgg81 rfl rfl rfl rfl ?_
          refine RL.move rfl rfl rfl rfl ?_
          refine RL.move rfl rfl rfl rfl ?_
          refine RL.nilCheck rfl rfl rfl rfl ?_
          refine RL.fieldAddr fa_83_0 rfl rfl rfl rfl ?_
          refine RL.loadq Tryz.isAgg81 rfl rfl rfl rfl ?_
          refine RL.move rfl rfl rfl rfl ?_
          refine RL.move rfl rfl rfl rfl ?_
          refine RL.move rfl rfl rfl rfl ?_
          refine RL.move rfl rfl rfl rfl ?_
          refine RL.binX rfl rfl rfl rfl rfl rfl (wrapV_i64 (by omega) (by omega)) ?_
          refine RL.idxAt (j := i) Tryz.runUnderlying81 Tryz.sizeOf131 rfl rfl rfl rfl rfl rfl (hlt) ?_
          refine RL.fieldAddr fa_131_2 rfl rfl rfl rfl ?_
          refine RL.storeO (off := i * 35 + 33) (vs := [_]) (rcs_setE hR h2 e') Tryz.sizeOf32 rfl rfl rfl rfl rfl (by rw [add_none, Nat.add_assoc]) rfl rfl rfl (by rw [hlen R hR]; simp; omega) (by repeat (first | exact Upd.here | apply Upd.there)) ?_
          refine RL.idxAt (j := i) Tryz.runUnderlying81 Tryz.sizeOf131 rfl rfl rfl rfl rfl rfl (hlt) ?_
          refine RL.fieldAddr fa_131_3 rfl rfl rfl rfl ?_
          refine RL.storeO (off := i * 35 + 34) (vs := [_]) (rcs_setG hR1 hi1 (t + g)) Tryz.sizeOf3 rfl rfl rfl rfl rfl (by rw [add_none, Nat.add_assoc]) rfl rfl rfl (by rw [hlen _ hR1]; simp; omega) (by repeat (first | exact Upd.here | apply Upd.there)) ?_
          refine RL.nil ?_
          refine NQ.seq ?_
          refine CW.only .nil ?_
          refine CW.seq ?_
          refine CW.region (ef := []) (bk := []) ?_
          refine RL.assign rfl rfl rfl rfl ?_
          refine RL.nil ?_
          refine NQ.seq ?_
          refine CW.ret ?_
          have hset : setR R s e' (t + g) = (R.set i { o with e := e' }).set i { o with e := e', g := t + g } := by rw [setR, h1, h3, List.set_set]
          exact RQ.post (res1 rfl rfl) (.keep (.keep .nil)) ⟨by rw [rrollE, if_pos hm, h3]; dsimp only; rw [if_neg hb], rfl, some ba, cp, by rw [rrollR, if_pos hm, h3]; dsimp only; rw [if_neg hb, hset]; simp [RefK]⟩
end Go.Proofs.YtkkfdoippibfkaaGreat
