import Derived.Test.YtbdnebedmdoehaaGreatFr0
import Derived.Test.YtbdnebedmdoehaaGreatClone
import Derived.Test.YtbdnebedmdoehaaGreatLexSort
import Derived.Test.YtbdnebedmdoehaaGreatPE
import Derived.Shelf.SlSortCmp.NoneTotal
import Derived.Shelf.Lay
import Derived.Ground.SlsfProg
namespace Go.Proofs.YtbdnebedmdoehaaGreat
open Go.PK

/-! ### Frames of one's own -/
structure FrO where
  f : Fr
  ob : Option Nat
  cp : Nat
abbrev FrO.sl (x : FrO) : Value := slO x.ob x.f.b.length x.cp
abbrev FrO.cells (x : FrO) : List Value := x.f.cells x.sl
abbrev frV (x : FrO) : Value := .agg x.cells.toArray
abbrev bodyO (x : FrO) : It := own x.ob x.cp 5 1 x.f.b.length (bytes x.f.b)
structure FrO.Ok (x : FrO) : Prop where
  f : x.f.Ok
  b : x.f.b.length ≤ 100000
def fr0 : Fr := ⟨0, 0, 0, 0, [], List.replicate 16 0#8⟩
def fro0 : FrO := ⟨fr0, none, 0⟩
theorem fr0_ok : fr0.Ok := ⟨by decide, by decide, by decide⟩
theorem fro0_ok : fro0.Ok := ⟨fr0_ok, by decide⟩
theorem fro_len {x : FrO} (h : x.Ok) : x.cells.length = 21 := fr_len h.f.tag _

/-! ### Places -/
abbrev Pq := Int × Int
def plq (p : Pq) : Value := .agg #[.int .u32 p.1, .int .u8 p.2]
def plcq (p : Pq) : List Value := [.int .u32 p.1, .int .u8 p.2]
def goodQ (v : Value) : Prop := ∃ p, v = plq p
theorem plq_inj {p q : Pq} : plq p = plq q ↔ p = q := by
  obtain ⟨a, b⟩ := p; obtain ⟨c, d⟩ := q
  simp [plq]
theorem same_plq (p q : Pq) : same (plq p) (plq q) = (p.1 == q.1 && p.2 == q.2) := by
  rw [Bool.eq_iff_iff, same_iff, plq_inj]
  obtain ⟨a, b⟩ := p; obtain ⟨c, d⟩ := q
  simp
theorem keyQ : KeyT Tryz.prog 117 goodQ where
  desc := ⟨_, Tryz.runUnderlying117, fun a b _ _ => .inl (by cases a <;> cases b <;> rfl)⟩
  eq := by
    rintro _ _ ⟨⟨a, b⟩, rfl⟩ ⟨⟨c, d⟩, rfl⟩ w
    rw [same_plq]
    simp [plq, Op.equal, Op.maxDepth, run_equalIn_struct, Program.fieldsOf, Op.eqFields, Go.part, go_sem]
    by_cases h1 : a = c <;> by_cases h2 : b = d <;> simp [h1, h2]
  chk := by
    rintro _ ⟨⟨a, b⟩, rfl⟩ e w
    have : ∀ n, (Instr.checkKey e (n + 2) 117 (.agg #[.int .u32 a, .int .u8 b])).run Tryz.prog w = .ok () w := by
      intro n
      simp [Instr.checkKey, Go.part, go_sem]
    exact this 9998
  bits := by
    rintro _ ⟨⟨a, b⟩, rfl⟩
    simp [plq, Instr.sameBits]
abbrev Bq := List (Pq × FrO)
def encQ (c : Bq) : List (Value × Value) := c.map fun x => (plq x.1, frV x.2)
def keysQ (c : Bq) : List Pq := c.map (·.1)
def delQ (p : Pq) : Bq → Bq
  | [] => []
  | (q, x) :: r => if p = q then r else (q, x) :: delQ p r
def lkQ (p : Pq) : Bq → Option FrO
  | [] => none
  | (q, x) :: r => if p = q then some x else lkQ p r
theorem lookQ (p : Pq) : ∀ c : Bq, lookV (plq p) (encQ c) = (lkQ p c).map frV
  | [] => rfl
  | (q, v) :: r => by
    have ih := lookQ p r
    by_cases h : p = q
    · subst h; simp [encQ, lookV, lkQ]
    · have h' : ¬ plq p = plq q := fun e => h (plq_inj.1 e)
      simp only [encQ] at ih
      simp [encQ, lookV, lkQ, h, h', ih]
theorem delQ_enc (p : Pq) : ∀ c : Bq, delV (plq p) (encQ c) = encQ (delQ p c)
  | [] => rfl
  | (q, u) :: r => by
    have ih := delQ_enc p r
    by_cases h : p = q
    · subst h; simp [encQ, delV, delQ]
    · have h' : ¬ plq p = plq q := fun e => h (plq_inj.1 e)
      simp only [encQ] at ih
      simp [encQ, delV, delQ, h, h', ih]
theorem setQ_enc {p : Pq} (x : FrO) : ∀ {c : Bq}, p ∉ keysQ c → setV (plq p) (frV x) (encQ c) = encQ (c ++ [(p, x)])
  | [], _ => rfl
  | (q, u) :: r, h => by
    simp only [keysQ, List.map_cons, List.mem_cons, not_or] at h
    have ih := setQ_enc x (c := r) h.2
    have h' : ¬ plq p = plq q := fun e => h.1 (plq_inj.1 e)
    simp only [encQ] at ih
    simp [encQ, setV, h', ih]
theorem lkQ_some {p : Pq} {x : FrO} : ∀ {c : Bq}, lkQ p c = some x → (p, x) ∈ c
  | (q, u) :: c, h => by
    rw [lkQ] at h
    split at h
    · next e => subst e; cases h; exact List.mem_cons_self
    · exact List.mem_cons_of_mem _ (lkQ_some h)
theorem lkQ_none {p : Pq} : ∀ {c : Bq}, lkQ p c = none ↔ p ∉ keysQ c
  | [] => by simp [lkQ, keysQ]
  | (q, u) :: c => by
    rw [lkQ]
    by_cases h : p = q
    · subst h; simp [keysQ]
    · rw [if_neg h, lkQ_none]; simp [keysQ, h]
theorem delQ_perm {p : Pq} {x : FrO} : ∀ {c : Bq}, lkQ p c = some x → c.Perm ((p, x) :: delQ p c)
  | (q, u) :: c, h => by
    rw [lkQ] at h
    rw [delQ]
    by_cases e : p = q
    · subst e; rw [if_pos rfl] at h ⊢; cases h; exact List.Perm.refl _
    · rw [if_neg e] at h ⊢
      exact ((delQ_perm h).cons _).trans (List.Perm.swap _ _ _)
theorem encQ_keys (c : Bq) : (encQ c).map (·.1) = (keysQ c).map plq := by simp [encQ, keysQ, Function.comp_def]
theorem nodup_plq {l : List Pq} : (l.map plq).Nodup → l.Nodup
  | h => by
    refine List.Pairwise.of_map plq (fun a b hab e => hab (by rw [e])) h
theorem atQ_enc (p : Pq) (c : Bq) : (lookV (plq p) (encQ c)).getD (frV fro0) = frV ((lkQ p c).getD fro0) := by
  rw [lookQ]; cases lkQ p c <;> rfl
theorem isQ_enc (p : Pq) (c : Bq) : (lookV (plq p) (encQ c)).isSome = (lkQ p c).isSome := by
  rw [lookQ]; cases lkQ p c <;> rfl
abbrev bufI (b r : Nat) : It := cel b [.map (some r)] 134
abbrev mapQ (r : Nat) (c : Bq) : It := mapI r goodQ (encQ c)
theorem mapQ_nodup {r : Nat} {c : Bq} {w : World} (h : (mapQ r c).A w) : (keysQ c).Nodup := by
  obtain ⟨es, clock, h1, h2, h3, -⟩ := h
  rw [encQ_keys] at h3
  exact nodup_plq h3

theorem qis_yes (b r : Nat) : Spc Tryz.prog 76 #[.pointer (some ⟨b, 0, none⟩)] [bufI b r] [] (Is (.bool true)) := by
  refine Spc.enter Tryz.func76 rfl rfl rfl (fun w0 hw0 => ?_)
  refine CW.seq ?_
  refine CW.region (ef := []) (bk := []) ?_
  refine RL.assign rfl rfl rfl rfl ?_
  refine RL.nil ?_
  refine NQ.seq ?_
  refine CW.seq ?_
  refine CW.region (ef := []) (bk := []) ?_
  refine RL.move rfl rfl rfl rfl ?_
  refine RL.cmp rfl rfl rfl rfl rfl (neq_ptr Tryz.runUnderlying78 _) ?_
  refine RL.move rfl rfl rfl rfl ?_
  refine RL.move rfl rfl rfl rfl ?_
  refine RL.nilCheck rfl rfl rfl rfl ?_
  refine RL.fieldAddr fa_134_0 rfl rfl rfl rfl ?_
  refine RL.loadq Tryz.isAgg132 rfl rfl rfl rfl ?_
  refine RL.cmp rfl rfl rfl rfl rfl (neq_map Tryz.runUnderlying132 _) ?_
  refine RL.pickT rfl rfl rfl rfl rfl ?_
  refine RL.assign rfl rfl rfl rfl ?_
  refine RL.nil ?_
  refine NQ.seq ?_
  refine CW.only (.cons (k := 2) rfl .nil) ?_
  refine CW.ret ?_
  exact RQ.post (res1 rfl rfl) (Split.none _) ⟨rfl, rfl, rfl⟩
theorem qnew_any : Spc Tryz.prog 41 #[] [] [] (fun v I' H' => ∃ b r, v = .pointer (some ⟨b, 0, none⟩) ∧ I' = [] ∧ H' = [bufI b r, mapQ r []]) := by
  refine Spc.enter Tryz.func41 rfl rfl rfl (fun w0 hw0 => ?_)
  refine CW.seq ?_
  refine CW.region (ef := []) (bk := []) ?_
  refine RL.assign rfl rfl rfl rfl ?_
  refine RL.nil ?_
  refine NQ.seq ?_
  refine CW.seq ?_
  refine CW.region (ef := [0, 2]) (bk := []) ?_
  refine RL.makeMap (good := goodQ) rfl rfl rfl rfl (fun r => ?_)
  refine RL.buildS [_] Tryz.zeroValue134 pl_134 rfl rfl rfl rfl rfl ?_
  refine RL.box rfl rfl rfl rfl rfl rfl ?_
  intro b1
  refine RL.assign rfl rfl rfl rfl ?_
  refine RL.nil ?_
  refine NQ.seq ?_
  refine CW.ret ?_
  exact RQ.post (res1 rfl rfl) (.keep (.keep .nil)) ⟨b1, r, rfl, rfl, rfl⟩
theorem own_any (f : Fr) (p : Option Addr) (c n : Nat) (hf : f.Ok) (hn : f.b.length = n) (hb : n ≤ 100000) : Spc Tryz.prog 92 #[.agg (f.cells (.slice p n c)).toArray] [sls p 1 n (bytes f.b)] [] (FewR f n) := by
  have hl := fr_len hf.tag (.slice p n c)
  refine Spc.enter Tryz.func92 rfl rfl rfl (fun w0 hw0 => ?_)
  refine CW.seq ?_
  refine CW.region (ef := [0, 1]) (bk := []) ?_
  refine RL.box rfl rfl rfl rfl rfl rfl ?_
  intro b1
  refine RL.alloc Tryz.zeroValue30 rfl rfl rfl rfl rfl ?_
  intro b2
  refine RL.nil ?_
  refine NQ.seq ?_
  refine CW.seq ?_
  refine CW.region (ef := [2, 4]) (bk := [4]) ?_
  refine RL.fieldAddr fa_30_4 rfl rfl rfl rfl ?_
  refine RL.loadq Tryz.isAgg26 rfl rfl rfl rfl ?_
  refine RL.callq (OwnB.n hn (clone_any p n c f.b hn (by omega))) Tryz.call89 rfl rfl rfl rfl rfl (.inl rfl) ?_
  rintro _ _ _ ⟨ob1, cap1, rfl, rfl, rfl, ho1⟩
  refine RL.fieldAddr fa_30_4 rfl rfl rfl rfl ?_
  refine RL.storeSeg (cs := f.cells (.slice p n c)) (cs' := f.cells (slO ob1 n cap1)) (vs := [slO ob1 n cap1]) [.int .i64 f.kd, .int .i64 f.sr, .int .u32 (f.ep : Int), .int .u64 (f.ct : Int)] [.slice p n c] (bytes f.tag) Tryz.sizeOf26 rfl rfl rfl rfl rfl rfl rfl rfl rfl rfl rfl rfl rfl (by repeat (first | exact Upd.here | apply Upd.there)) ?_
  refine RL.nil ?_
  refine NQ.seq ?_
  refine CW.seq ?_
  refine CW.region (ef := [1]) (bk := [1]) ?_
  have hl2 := fr_len hf.tag (slO ob1 n cap1)
  refine RL.loadW Tryz.isAgg30 Tryz.sizeOf30 rfl rfl rfl rfl (by repeat (first | exact List.Mem.head _ | apply List.Mem.tail)) hl2 ?_
  refine RL.storeW Tryz.sizeOf30 rfl rfl rfl rfl rfl rfl rfl (ones_fr _ rfl) (by repeat (first | exact Upd.here | apply Upd.there)) hl2 rfl ?_
  refine RL.nil ?_
  refine NQ.seq ?_
  refine CW.only (.cons (k := 2) rfl .nil) ?_
  refine CW.ret ?_
  refine RQ.rea (fun _ h => h) (H' := [own ob1 cap1 5 1 n (bytes f.b), cel b2 (f.cells (slO ob1 n cap1)) 30]) (by repeat (first | exact Rea.nil | (apply Rea.cons; (solve | (repeat (first | exact Del.here | apply Del.there)))))) ?_
  exact RQ.post (resW rfl rfl Tryz.isAgg30 Tryz.sizeOf30 (by repeat (first | exact List.Mem.head _ | apply List.Mem.tail)) hl2) (.keep (Split.none _)) ⟨ob1, cap1, rfl, rfl, rfl, trivial⟩
end Go.Proofs.YtbdnebedmdoehaaGreat

namespace Go.Proofs.YtbdnebedmdoehaaGreat
open Go.PK Go.Shelf Go.Sort
theorem qcmp_any (a b c d : Int) : Spc Tryz.prog 78 #[.agg #[.int .u32 a, .int .u8 b], .agg #[.int .u32 c, .int .u8 d]] [] [] (Is (.int .i64 (cmp2 a c b d))) := by
  refine Spc.enter Tryz.func78 rfl rfl rfl (fun w0 hw0 => ?_)
  refine CW.seq ?_
  refine CW.region (ef := [0, 1]) (bk := []) ?_
  refine RL.box rfl rfl rfl rfl rfl rfl ?_
  intro b1
  refine RL.box rfl rfl rfl rfl rfl rfl ?_
  intro b2
  refine RL.assign rfl rfl rfl rfl ?_
  refine RL.nil ?_
  refine NQ.seq ?_
  refine CW.seq ?_
  refine CW.freezeP (A := [_, _]) (B := []) (.take (.take .nil)) rfl ?_
  refine CW.regionD (Sq.of [0, 1, 2, 3, 4, 5, 6, 7, 8, 9, 10, 11, 12]) [10] [] [0, 1, 2, 3, 4, 5, 6, 7, 8, 9, 12] mixed (by kernel_rfl) ?_
  refine RL.fieldAddr fa_117_0 rfl rfl rfl rfl ?_
  refine RL.loadTq Tryz.isAgg24 rfl rfl rfl rfl ?_
  refine RL.fieldAddr fa_117_0 rfl rfl rfl rfl ?_
  refine RL.loadTq Tryz.isAgg24 rfl rfl rfl rfl ?_
  refine RL.callTq (cmp_uint32 a c) Tryz.call98 rfl rfl rfl rfl ?_
  refine RL.fieldAddr fa_117_1 rfl rfl rfl rfl ?_
  refine RL.loadTq Tryz.isAgg5 rfl rfl rfl rfl ?_
  refine RL.fieldAddr fa_117_1 rfl rfl rfl rfl ?_
  refine RL.loadTq Tryz.isAgg5 rfl rfl rfl rfl ?_
  refine RL.callTq (cmp_uint8 b d) Tryz.call99 rfl rfl rfl rfl ?_
  refine RL.buildSlice [_, _] Tryz.runUnderlying144 Tryz.sizeOf3 Tryz.zeroValue3 rfl rfl (by decide) (by decide) rfl rfl rfl rfl rfl rfl ?_
  intro b3
  refine RL.callv (or_any (some ⟨b3, 0, none⟩) 2 2 [cmpI a c, cmpI b d] rfl (by decide)) Tryz.call97 rfl rfl rfl rfl (.all (List.Mem.head _) rfl .nil) ?_
  refine RL.assign rfl rfl rfl rfl ?_
  refine RL.nil ?_
  refine NQ.seq ?_
  refine CW.only (.cons (k := 4) rfl .nil) ?_
  refine CW.ret ?_
  exact RQ.post (res1 rfl rfl) (Split.none _) ⟨by rw [or2], rfl, rfl⟩
def Tryz.sortQ_ren : Go.Shelf.Ren := ⟨fun | 6 => 77 | 15 => 96 | 14 => 95 | 28 => 124 | 29 => 125 | 20 => 116 | 21 => 117 | 22 => 118 | 23 => 119 | 24 => 120 | 25 => 121 | 26 => 122 | 27 => 123 | 46 => 137 | 47 => 138 | 48 => 139 | 49 => 140 | 50 => 141 | 57 => 143 | n => n, fun | 22 => 82 | 24 => 117 | 25 => 148 | 3 => 3 | 39 => 156 | 0 => 0 | 53 => 24 | 55 => 25 | 4 => 4 | 46 => 196 | 45 => 195 | 50 => 200 | 5 => 5 | 9 => 9 | 66 => 216 | 70 => 220 | 76 => 223 | 77 => 224 | n => n, fun | n => n⟩
theorem Tryz.sortQ : Go.Proofs.SlLaysF0.n6 Tryz.prog Tryz.sortQ_ren := {
  mixed := by kernel_rfl
  f6 := ⟨Tryz.f77.name, by decide, Tryz.func77.trans (congrArg some (by kernel_rfl))⟩
  f14 := ⟨Tryz.f95.name, by decide, Tryz.func95.trans (congrArg some (by kernel_rfl))⟩
  f15 := Tryz.func96.trans (congrArg some (by kernel_rfl))
  f20 := ⟨Tryz.f116.name, by decide, Tryz.func116.trans (congrArg some (by kernel_rfl))⟩
  f21 := ⟨Tryz.f117.name, by decide, Tryz.func117.trans (congrArg some (by kernel_rfl))⟩
  f22 := ⟨Tryz.f118.name, by decide, Tryz.func118.trans (congrArg some (by kernel_rfl))⟩
  f23 := ⟨Tryz.f119.name, by decide, Tryz.func119.trans (congrArg some (by kernel_rfl))⟩
  f24 := ⟨Tryz.f120.name, by decide, Tryz.func120.trans (congrArg some (by kernel_rfl))⟩
  f25 := ⟨Tryz.f121.name, by decide, Tryz.func121.trans (congrArg some (by kernel_rfl))⟩
  f26 := ⟨Tryz.f122.name, by decide, Tryz.func122.trans (congrArg some (by kernel_rfl))⟩
  f27 := ⟨Tryz.f123.name, by decide, Tryz.func123.trans (congrArg some (by kernel_rfl))⟩
  f28 := Tryz.func124.trans (congrArg some (by kernel_rfl))
  f29 := Tryz.func125.trans (congrArg some (by kernel_rfl))
  f46 := ⟨Tryz.f137.name, by decide, Tryz.func137.trans (congrArg some (by kernel_rfl))⟩
  f47 := Tryz.func138.trans (congrArg some (by kernel_rfl))
  f48 := Tryz.func139.trans (congrArg some (by kernel_rfl))
  f49 := ⟨Tryz.f140.name, by decide, Tryz.func140.trans (congrArg some (by kernel_rfl))⟩
  f50 := ⟨Tryz.f141.name, by decide, Tryz.func141.trans (congrArg some (by kernel_rfl))⟩
  f57 := ⟨Tryz.f143.name, by decide, Tryz.func143.trans (congrArg some (by kernel_rfl))⟩
  t0 := Tryz.underlying0
  a0 := Tryz.isAgg0
  z0 := Tryz.sizeOf0
  v0 := Tryz.zeroValue0
  t3 := Tryz.underlying3
  a3 := Tryz.isAgg3
  z3 := Tryz.sizeOf3
  v3 := Tryz.zeroValue3
  t4 := Tryz.underlying4
  a4 := Tryz.isAgg4
  z4 := Tryz.sizeOf4
  v4 := Tryz.zeroValue4
  t5 := Tryz.underlying5
  a5 := Tryz.isAgg5
  z5 := Tryz.sizeOf5
  v5 := Tryz.zeroValue5
  t9 := Tryz.underlying9
  a9 := Tryz.isAgg9
  z9 := Tryz.sizeOf9
  v9 := Tryz.zeroValue9
  t22 := Tryz.underlying82
  a22 := Tryz.isAgg82
  z22 := Tryz.sizeOf82
  v22 := Tryz.zeroValue82
  t25 := Tryz.underlying148
  a25 := Tryz.isAgg148
  z25 := Tryz.sizeOf148
  v25 := Tryz.zeroValue148
  t39 := Tryz.underlying156
  a39 := Tryz.isAgg156
  z39 := Tryz.sizeOf156
  v39 := Tryz.zeroValue156
  t45 := Tryz.underlying195
  a45 := Tryz.isAgg195
  z45 := Tryz.sizeOf195
  v45 := Tryz.zeroValue195
  t46 := Tryz.underlying196
  a46 := Tryz.isAgg196
  z46 := Tryz.sizeOf196
  v46 := Tryz.zeroValue196
  t50 := Tryz.underlying200
  a50 := Tryz.isAgg200
  z50 := Tryz.sizeOf200
  v50 := Tryz.zeroValue200
  t53 := Tryz.underlying24
  a53 := Tryz.isAgg24
  z53 := Tryz.sizeOf24
  v53 := Tryz.zeroValue24
  t55 := Tryz.underlying25
  a55 := Tryz.isAgg25
  z55 := Tryz.sizeOf25
  v55 := Tryz.zeroValue25
  t66 := Tryz.underlying216
  a66 := Tryz.isAgg216
  z66 := Tryz.sizeOf216
  v66 := Tryz.zeroValue216
  t70 := Tryz.underlying220
  a70 := Tryz.isAgg220
  z70 := Tryz.sizeOf220
  v70 := Tryz.zeroValue220
  t76 := Tryz.underlying223
  a76 := Tryz.isAgg223
  z76 := Tryz.sizeOf223
  v76 := Tryz.zeroValue223
  t77 := Tryz.underlying224
  a77 := Tryz.isAgg224
  z77 := Tryz.sizeOf224
  v77 := Tryz.zeroValue224 }
def cfQ (p q : Int × Int) : Int := cmp2 p.1 q.1 p.2 q.2
theorem lt_cfQ (x y : Int × Int) : ltOf cfQ x y = decide (x.1 < y.1 ∨ x.1 = y.1 ∧ x.2 < y.2) := by
  rw [Bool.eq_iff_iff]
  simp [ltOf, cfQ, cmp2_neg]
theorem swoQ : SWO (ltOf cfQ) where
  irrefl x := by rw [lt_cfQ]; simp
  trans x y z h1 h2 := by rw [lt_cfQ] at *; simp at *; omega
  ntrans x y z h1 h2 := by rw [lt_cfQ] at *; simp at *; omega
theorem totQ (x y : Int × Int) (h1 : ltOf cfQ x y = false) (h2 : ltOf cfQ y x = false) : x = y := by
  rw [lt_cfQ] at h1 h2
  obtain ⟨a, b⟩ := x; obtain ⟨c, d⟩ := y
  simp at h1 h2
  rw [Prod.mk.injEq]; omega
theorem le_cfQ : (fun x y => !(ltOf cfQ) y x) = lexLe := by
  funext x y
  rw [lt_cfQ, Bool.eq_iff_iff]
  simp [lexLe]; omega
theorem sortQ_o (ob : Option Nat) (cap n : Nat) (d : List (Int × Int)) (hn : d.length = n) (hb : n < 4611686018427387904) : Spc Tryz.prog 77 #[slO ob n cap, .func (.func 78) #[] #[]] [] [own ob cap 117 2 n (d.flatMap plcq)]
    (fun v I' H' => v = .tuple #[] ∧ I' = [] ∧ H' = [own ob cap 117 2 n ((d.mergeSort lexLe).flatMap plcq)]) := by
  have := sort_funcO (P := Tryz.prog) (f := 77) (g := 78) plcq (k := 2) (by decide) (fun _ => rfl) cfQ
    (fun blk off cap d w h1 h2 h3 h4 => AnyQ.slices_SortFunc_total Tryz.sortQ 2 Tryz.isAgg117 Tryz.sizeOf117 plcq (fun _ => rfl) (fun x v hv => by simp [plcq] at hv; rcases hv with rfl | rfl <;> rfl) cfQ swoQ 78 #[] blk off cap d w Tryz.call78 h1 h2 h3 h4 totQ)
    (fun cap w => AnyF.slices_SortFunc_none Tryz.sortQ none cap _ w)
    (fun x y => qcmp_any x.1 x.2 y.1 y.2) ob cap n 117 d hn hb
  rw [le_cfQ] at this
  exact this
end Go.Proofs.YtbdnebedmdoehaaGreat

namespace Go.Proofs.YtbdnebedmdoehaaGreat
open Go.PK
theorem plcq_snoc (l : List Pq) (p : Pq) : (l ++ [p]).flatMap plcq = l.flatMap plcq ++ [.int .u32 p.1, .int .u8 p.2] := by simp [plcq]
/-- Places in order. -/
def plsQ (c : Bq) : List Pq := (keysQ c).mergeSort lexLe
theorem plsQ_len (c : Bq) : (plsQ c).length = c.length := by simp [plsQ, keysQ]
theorem places_any (b r : Nat) (c : Bq) (hl : c.length ≤ 100000) : Spc Tryz.prog 58 #[.pointer (some ⟨b, 0, none⟩)] [] [bufI b r, mapQ r c]
    (fun v I' H' => ∃ ob cap, v = slO ob c.length cap ∧ I' = [] ∧ H' = [own ob cap 117 2 c.length ((plsQ c).flatMap plcq), mapQ r c, bufI b r]) := by
  refine Spc.enter Tryz.func58 rfl rfl rfl (fun w0 hw0 => ?_)
  refine CW.seq ?_
  refine CW.region (ef := []) (bk := []) ?_
  refine RL.assign rfl rfl rfl rfl ?_
  refine RL.nil ?_
  refine NQ.seq ?_
  refine CW.seq ?_
  refine CW.region (ef := []) (bk := []) ?_
  refine RL.assign rfl rfl rfl rfl ?_
  refine RL.nil ?_
  refine NQ.seq ?_
  refine CW.seq ?_
  refine CW.seq ?_
  refine CW.region (ef := []) (bk := []) ?_
  refine RL.move rfl rfl rfl rfl ?_
  refine RL.callvq (qis_yes _ _) Tryz.call76 rfl rfl rfl rfl ?_
  refine RL.not rfl rfl rfl rfl ?_
  refine RL.nil ?_
  refine NQ.seq ?_
  refine CW.condF rfl (rfl) ?_
  refine CW.ownNone (e := 117) 2 ?_
  refine CW.skip ?_
  refine NQ.seq ?_
  refine CW.seq ?_
  refine CW.seq ?_
  refine CW.region (ef := [4]) (bk := [4]) ?_
  refine RL.move rfl rfl rfl rfl ?_
  refine RL.nilCheck rfl rfl rfl rfl ?_
  refine RL.fieldAddr fa_134_0 rfl rfl rfl rfl ?_
  refine RL.loadq Tryz.isAgg132 rfl rfl rfl rfl ?_
  refine RL.range Tryz.runUnderlying132 rfl rfl rfl rfl rfl rfl (by repeat (first | exact Pick.nil | apply Pick.take | apply Pick.leave)) (fun it => ?_)
  refine RL.nil ?_
  refine NQ.seq ?_
  refine CW.only (.cons (k := 2) rfl (.cons (k := 3) rfl (.cons (k := 13) rfl .nil))) ?_
  refine CW.block ?_
  refine CW.loop (γ := Bq × List Pq × Option Nat × Nat × Nat) (fun g => (g.2.1 ++ keysQ g.1).Perm (keysQ c) ∧ g.2.2.2.2 = g.2.1.length) (fun g => [(3, slO g.2.2.1 g.2.2.2.2 g.2.2.2.1), (13, .pointer (some ⟨it, 0, none⟩))]) (fun _ => [])
    (fun g => [mapIt r it goodQ (encQ c) (encQ g.1), own g.2.2.1 g.2.2.2.1 117 2 g.2.2.2.2 (g.2.1.flatMap plcq), bufI b r]) (fun g => g.1.length) (c, [], none, 0, 0) ⟨List.Perm.refl _, rfl⟩ (.cons rfl (.cons rfl .nil)) (fun w h => h.rea (fun _ h => h) (by repeat (first | exact Rea.nil | (apply Rea.cons; (solve | (repeat (first | exact Del.here | apply Del.there))))))) ?_
  rintro ⟨L, acc, ob, cp, n⟩ ⟨hp, hn⟩
  dsimp only at hp hn ⊢
  have hlen : n + L.length = c.length := by
    have := hp.length_eq
    rw [List.length_append] at this
    simp [keysQ] at this
    omega
  refine CW.seq ?_
  refine CW.region (ef := [0]) (bk := [0]) ?_
  refine RL.nextC rfl rfl rfl rfl rfl rfl (.take (Pick.none _)) (fun hl0 => ?_) (fun q p hq => ?_)
  · have hL : L = [] := by cases L with
      | nil => rfl
      | cons => cases hl0
    subst hL
    obtain rfl : n = c.length := by simpa using hlen
    refine RL.extract rfl rfl rfl rfl rfl ?_
    refine RL.nil ?_
    refine NQ.seq ?_
    refine CW.seq ?_
    refine CW.condF rfl ((by simp)) ?_
    refine CW.exit ?_
    refine XQ.seq ?_
    refine XQ.seq ?_
    refine XQ.hit ?_
    refine NQ.seq ?_
    refine CW.seq ?_
    refine CW.unrange ?_
    refine CW.region (ef := [1]) (bk := [1]) ?_
    refine RL.move rfl rfl rfl rfl ?_
    refine RL.callq (sortQ_o ob cp c.length acc hn.symm (by omega)) Tryz.call77 rfl rfl rfl rfl rfl (.inr rfl) ?_
    rintro _ _ _ ⟨rfl, rfl, rfl⟩
    refine RL.nil ?_
    refine NQ.seq ?_
    refine CW.seq ?_
    refine CW.region (ef := []) (bk := []) ?_
    refine RL.move rfl rfl rfl rfl ?_
    refine RL.assign rfl rfl rfl rfl ?_
    refine RL.nil ?_
    refine NQ.seq ?_
    refine CW.only (.cons (k := 2) rfl .nil) ?_
    refine CW.ret ?_
    have hs : acc.mergeSort lexLe = plsQ c := sort_perm (by simpa [keysQ] using hp)
    rw [hs]
    exact RQ.post (res1 rfl rfl) (.keep (.keep (.keep .nil))) ⟨ob, cp, rfl, rfl, rfl⟩
  ·
    obtain ⟨⟨⟨s, a⟩, x⟩, hq', rfl⟩ : ∃ x, L[q]? = some x ∧ (plq x.1, frV x.2) = p := by
      rw [encQ, List.getElem?_map] at hq
      cases hx : L[q]? with
      | none => rw [hx] at hq; cases hq
      | some x => rw [hx] at hq; exact ⟨x, rfl, by simpa using hq⟩
    have hsz : (L.eraseIdx q).length < L.length := by rw [List.length_eraseIdx_of_lt (List.getElem?_eq_some_iff.1 hq').1]; have := (List.getElem?_eq_some_iff.1 hq').1; omega
    have hpm : (keysQ L).Perm ((s, a) :: keysQ (L.eraseIdx q)) := (perm_erase' hq').map Prod.fst
    rw [show (encQ L).eraseIdx q = encQ (L.eraseIdx q) from (map_eraseIdx' _ _ _).symm]
    refine RL.extract rfl rfl rfl rfl rfl ?_
    refine RL.nil ?_
    refine NQ.seq ?_
    refine CW.seq ?_
    refine CW.condT rfl ((by simp)) ?_
    refine CW.skip ?_
    refine NQ.seq ?_
    refine CW.block ?_
    refine CW.seq ?_
    refine CW.region (ef := [2, 3]) (bk := [3]) ?_
    refine RL.entry rfl rfl rfl rfl (List.Mem.head _) ?_
    refine RL.extract rfl rfl rfl rfl rfl ?_
    refine RL.alloc Tryz.zeroValue117 rfl rfl rfl rfl rfl ?_
    intro b1
    refine RL.store (vs := [_, _]) Tryz.sizeOf117 rfl rfl rfl rfl rfl rfl rfl rfl rfl (by repeat (first | exact Upd.here | apply Upd.there)) ?_
    refine RL.nil ?_
    refine NQ.seq ?_
    refine CW.region (ef := [2, 3]) (bk := [3]) ?_
    refine RL.move rfl rfl rfl rfl ?_
    refine RL.loadN (vs := [_, _]) Tryz.isAgg117 Tryz.sizeOf117 rfl rfl rfl rfl (by first | (apply Rds.cel; (solve | (repeat (first | exact List.Mem.head _ | apply List.Mem.tail))); exact at_spec ⟨rfl, rfl, trivial⟩) | (apply Rds.celI; (solve | (repeat (first | exact List.Mem.head _ | apply List.Mem.tail))); exact at_spec ⟨rfl, rfl, trivial⟩) | assumption | (apply RdsI.rds; assumption)) ?_
    refine RL.buildSlice [_, _] Tryz.runUnderlying82 Tryz.sizeOf117 Tryz.zeroValue117 rfl rfl (by decide) (by decide) rfl rfl rfl rfl rfl rfl ?_
    intro b2
    refine RL.appendq el_82 rfl rfl rfl rfl rfl rfl rfl ?_ (hs := (by first | (exact Src.cel (by (solve | (repeat (first | exact List.Mem.head _ | apply List.Mem.tail)))) (by first | rfl | assumption | (simp only [List.length_map]; assumption) | (simp only [List.length_map, List.length_replicate]; done) | (simp; done))) | (exact Src.ownS (by (solve | (repeat (first | exact List.Mem.head _ | apply List.Mem.tail))))) | (exact Src.own (by (solve | (repeat (first | exact List.Mem.head _ | apply List.Mem.tail))))) | (exact Src.sls (by (solve | (repeat (first | exact List.Mem.head _ | apply List.Mem.tail))))) | (exact Src.celI (by (solve | (repeat (first | exact List.Mem.head _ | apply List.Mem.tail)))) (by first | rfl | assumption | (simp only [List.length_map]; assumption) | (simp only [List.length_map, List.length_replicate]; done) | (simp; done)))))
    intro ob1 cap1 ho1
    refine RL.assign rfl rfl rfl rfl ?_
    refine RL.nil ?_
    refine NQ.block ?_
    refine NQ.round (g := (L, acc, ob, cp, n)) (L.eraseIdx q, acc ++ [(s, a)], ob1, cap1, n + 1) ⟨?_, by simp [hn]⟩ hsz (.cons rfl (.cons rfl .nil)) (fun w h => (h.rea (H' := [mapCt r it goodQ (encQ c) (encQ (L.eraseIdx q)) (plq (s, a), frV x), own ob1 cap1 117 2 (n + 1) ((acc ++ [(s, a)]).flatMap plcq), bufI b r]) (fun _ h => h) (by rw [plcq_snoc]; exact (by repeat (first | exact Rea.nil | (apply Rea.cons; (solve | (repeat (first | exact Del.here | apply Del.there)))))))).uncur)
    refine List.Perm.trans ?_ hp
    dsimp only
    rw [List.append_assoc]
    exact List.Perm.append_left _ hpm.symm
/-! ### Put -/
def qputE (l : List Pq) (p : Pq) : Int := if p.1 = 0 then 2 else if p ∈ l then 6 else if l.length = 16 then 4 else 0
/-- What a put leaves: 'I' what is told of from now on. -/
inductive PutO (c : Bq) (p : Pq) (f : Fr) : Int → Bq → List It → Prop
  | no {e : Int} (h : qputE (keysQ c) p = e) (h0 : e ≠ 0) : PutO c p f e c []
  | yes (x : FrO) (hf : x.f = f) (h : qputE (keysQ c) p = 0) : PutO c p f 0 (c ++ [(p, x)]) [bodyO x]
def QPutR (b r : Nat) (c : Bq) (p : Pq) (f : Fr) : Value → List It → List It → Prop := fun v I' H' => ∃ e c', v = .int .i64 e ∧ PutO c p f e c' I' ∧ H' = [bufI b r, mapQ r c']
theorem qput_any (b r : Nat) (c : Bq) (p : Pq) (f : Fr) (q : Option Addr) (cc n : Nat) (hf : f.Ok) (hn : f.b.length = n) (hb : n ≤ 100000) (hc : ∀ x ∈ c, x.2.Ok) :
    Spc Tryz.prog 70 #[.pointer (some ⟨b, 0, none⟩), plq p, .agg (f.cells (.slice q n cc)).toArray] [sls q 1 n (bytes f.b)] [bufI b r, mapQ r c] (QPutR b r c p f) := by
  subst hn
  have hl := fr_len hf.tag (.slice q f.b.length cc)
  have hx0 : ((lkQ p c).getD fro0).Ok := by
    cases h : lkQ p c with
    | none => exact fro0_ok
    | some x => exact hc _ (lkQ_some h)
  have hl0 := fro_len hx0
  unfold plq
  refine Spc.enter Tryz.func70 rfl rfl rfl (fun w0 hw0 => ?_)
  refine CW.seq ?_
  refine CW.region (ef := [0, 1]) (bk := []) ?_
  refine RL.box rfl rfl rfl rfl rfl rfl ?_
  intro b1
  refine RL.box rfl rfl rfl rfl rfl rfl ?_
  intro b2
  refine RL.assign rfl rfl rfl rfl ?_
  refine RL.nil ?_
  refine NQ.seq ?_
  refine CW.seq ?_
  refine CW.freezeP (A := [_, _]) (B := [_, _]) (.take (.take (.leave (.leave .nil)))) rfl ?_
  refine CW.genI (fun J hJ => ?_)
  have mS : sls q 1 f.b.length (bytes f.b) ∈ J := hJ _ (by simp)
  have mP : cel b1 [.int .u32 p.1, .int .u8 p.2] 117 ∈ J := hJ _ (by simp)
  have mF : cel b2 (f.cells (.slice q f.b.length cc)) 30 ∈ J := hJ _ (by simp)
  have rP : RdsN J ⟨b1, 0, none⟩ 2 [.int .u32 p.1, .int .u8 p.2] := ⟨fun _ => Rds.allI mP, rfl⟩
  have rF : RdsN J ⟨b2, 0, none⟩ 21 (f.cells (.slice q f.b.length cc)) := ⟨fun _ => Rds.allI mF, hl⟩
  have r0 : RdI J ⟨b1, 0 + 0, none⟩ (.int .u32 p.1) := ⟨fun _ => Rd.celI mP rfl⟩
  clear hJ
  refine CW.block ?_
  refine CW.seq ?_
  refine CW.region (ef := []) (bk := []) ?_
  refine RL.move rfl rfl rfl rfl ?_
  refine RL.callvq (qis_yes b r) Tryz.call76 rfl rfl rfl rfl ?_
  refine RL.not rfl rfl rfl rfl ?_
  refine RL.assign rfl rfl rfl rfl ?_
  refine RL.nil ?_
  refine NQ.seq ?_
  refine CW.condF rfl (rfl) ?_
  refine CW.seq ?_
  refine CW.region (ef := []) (bk := []) ?_
  refine RL.fieldAddr fa_117_0 rfl rfl rfl rfl ?_
  refine RL.loadq Tryz.isAgg24 rfl rfl rfl rfl ?_
  refine RL.bin rfl rfl rfl rfl rfl rfl ?_
  refine RL.assign rfl rfl rfl rfl ?_
  refine RL.nil ?_
  refine NQ.seq ?_
  refine CW.only (.cons (k := 0) rfl (.cons (k := 4) rfl (.cons (k := 5) rfl (.cons (k := 6) rfl (.cons (k := 13) rfl .nil))))) ?_
  refine CW.cond rfl (fun h0 => ?_) (fun h0 => ?_)
  ·
    refine CW.seq ?_
    refine CW.region (ef := []) (bk := []) ?_
    refine RL.assign rfl rfl rfl rfl ?_
    refine RL.nil ?_
    refine NQ.seq ?_
    refine CW.ret ?_
    refine RQ.block ?_
    refine RQ.seq ?_
    have h0 : p.1 = 0 := by simpa using h0
    exact RQ.post (res1 rfl rfl) (.keep (.keep .nil)) ⟨2, c, rfl, .no (by rw [qputE, if_pos h0]) (by decide), rfl⟩
  ·
    have h0 : ¬ p.1 = 0 := by simpa using h0
    have hlk : Value.tuple #[(lookV (plq p) (encQ c)).getD (frV fro0), .bool (lookV (plq p) (encQ c)).isSome] = .tuple #[frV ((lkQ p c).getD fro0), .bool (lkQ p c).isSome] := by rw [atQ_enc, isQ_enc]
    refine CW.skip ?_
    refine NQ.block ?_
    refine NQ.seq ?_
    refine CW.seq ?_
    refine CW.seq ?_
    refine CW.regionD (Sq.of [0, 1, 2, 3, 4, 5, 6, 7, 8, 9, 10, 11]) [9, 10] [10] [0, 1, 2, 6, 7, 8, 11] mixed (by kernel_rfl) ?_
    refine RL.move rfl rfl rfl rfl ?_
    refine RL.nilCheck rfl rfl rfl rfl ?_
    refine RL.fieldAddr fa_134_0 rfl rfl rfl rfl ?_
    refine RL.loadq Tryz.isAgg132 rfl rfl rfl rfl ?_
    first | refine RL.loadM Tryz.isAgg117 Tryz.sizeOf117 rfl rfl rfl rfl (by assumption) ?_ | refine RL.loadA Tryz.isAgg117 Tryz.sizeOf117 rfl rfl rfl rfl (by first | assumption | (apply RdsI.rds; assumption)) (by first | rfl | assumption | (simp only [List.length_map]; assumption) | (simp only [List.length_map, List.length_replicate, hl, hl0]; done) | (simp; done)) ?_ | refine RL.loadW Tryz.isAgg117 Tryz.sizeOf117 rfl rfl rfl rfl (by (solve | (repeat (first | exact List.Mem.head _ | apply List.Mem.tail)))) (by first | rfl | assumption | (simp only [List.length_map]; assumption) | (simp only [List.length_map, List.length_replicate, hl, hl0]; done) | (simp; done)) ?_
    refine RL.lookupOk keyQ Tryz.runUnderlying132 Tryz.zeroValue30 rfl rfl rfl rfl rfl ⟨p, rfl⟩ (MapAt.own (by repeat (first | exact List.Mem.head _ | apply List.Mem.tail))) ?_
    refine RL.cast (d := 23) rfl hlk ?_
    refine RL.move rfl rfl rfl rfl ?_
    refine RL.extract rfl rfl rfl rfl rfl ?_
    refine RL.extract rfl rfl rfl rfl rfl ?_
    refine RL.alloc Tryz.zeroValue30 rfl rfl rfl rfl rfl ?_
    intro b3
    refine RL.storeW Tryz.sizeOf30 rfl rfl rfl rfl rfl rfl rfl (ones_fr _ rfl) (by repeat (first | exact Upd.here | apply Upd.there)) (by first | rfl | assumption | (simp only [List.length_map]; assumption) | (simp only [List.length_map, List.length_replicate, hl, hl0]; done) | (simp; done)) rfl ?_
    refine RL.assign rfl rfl rfl rfl ?_
    refine RL.nil ?_
    refine NQ.seq ?_
    refine CW.only (.cons (k := 0) rfl (.cons (k := 4) rfl (.cons (k := 5) rfl (.cons (k := 6) rfl (.cons (k := 8) rfl .nil))))) ?_
    refine CW.seq ?_
    refine CW.region (ef := []) (bk := []) ?_
    refine RL.move rfl rfl rfl rfl ?_
    refine RL.nil ?_
    refine NQ.seq ?_
    refine CW.cond rfl (fun hi => ?_) (fun hi => ?_)
    ·
      refine CW.seq ?_
      refine CW.region (ef := []) (bk := []) ?_
      refine RL.assign rfl rfl rfl rfl ?_
      refine RL.nil ?_
      refine NQ.seq ?_
      refine CW.ret ?_
      refine RQ.seq ?_
      have hm : p ∈ keysQ c := by
        rcases Decidable.em (p ∈ keysQ c) with h | h
        · exact h
        · rw [lkQ_none.2 h] at hi; cases hi
      exact RQ.post (res1 rfl rfl) (.drop (.keep (.keep .nil))) ⟨6, c, rfl, .no (by rw [qputE, if_neg h0, if_pos hm]) (by decide), rfl⟩
    ·
      have hm : p ∉ keysQ c := by
        refine lkQ_none.1 ?_
        cases h : lkQ p c with
        | none => rfl
        | some x => rw [h] at hi; cases hi
      refine CW.skip ?_
      refine NQ.seq ?_
      refine CW.seq ?_
      refine CW.seq ?_
      refine CW.region (ef := []) (bk := []) ?_
      refine RL.move rfl rfl rfl rfl ?_
      refine RL.nilCheck rfl rfl rfl rfl ?_
      refine RL.fieldAddr fa_134_0 rfl rfl rfl rfl ?_
      refine RL.loadq Tryz.isAgg132 rfl rfl rfl rfl ?_
      refine RL.lenM (n := c.length) Tryz.runUnderlying132 rfl rfl rfl rfl (MapAt.own (by repeat (first | exact List.Mem.head _ | apply List.Mem.tail))) (by simp [encQ]) ?_
      refine RL.bin rfl rfl rfl rfl rfl rfl ?_
      refine RL.nil ?_
      refine NQ.seq ?_
      refine CW.only (.cons (k := 0) rfl (.cons (k := 4) rfl (.cons (k := 5) rfl (.cons (k := 6) rfl (.cons (k := 32) rfl .nil))))) ?_
      refine CW.cond rfl (fun h16 => ?_) (fun h16 => ?_)
      ·
        refine CW.seq ?_
        refine CW.region (ef := []) (bk := []) ?_
        refine RL.assign rfl rfl rfl rfl ?_
        refine RL.nil ?_
        refine NQ.seq ?_
        refine CW.ret ?_
        refine RQ.seq ?_
        have h16 : (keysQ c).length = 16 := by simp [keysQ] at h16 ⊢; omega
        exact RQ.post (res1 rfl rfl) (.drop (.keep (.keep .nil))) ⟨4, c, rfl, .no (by rw [qputE, if_neg h0, if_neg hm, if_pos h16]) (by decide), rfl⟩
      ·
        have h16 : ¬ (keysQ c).length = 16 := by simp [keysQ] at h16 ⊢; omega
        refine CW.skip ?_
        refine NQ.seq ?_
        refine CW.seq ?_
        refine CW.regionD (Sq.of [0, 1, 2, 3, 4, 5, 6, 7]) [6, 7] [7] [0, 1, 2] mixed (by kernel_rfl) ?_
        refine RL.move rfl rfl rfl rfl ?_
        refine RL.nilCheck rfl rfl rfl rfl ?_
        refine RL.fieldAddr fa_134_0 rfl rfl rfl rfl ?_
        refine RL.loadq Tryz.isAgg132 rfl rfl rfl rfl ?_
        first | refine RL.loadM Tryz.isAgg117 Tryz.sizeOf117 rfl rfl rfl rfl (by assumption) ?_ | refine RL.loadA Tryz.isAgg117 Tryz.sizeOf117 rfl rfl rfl rfl (by first | assumption | (apply RdsI.rds; assumption)) (by first | rfl | assumption | (simp only [List.length_map]; assumption) | (simp only [List.length_map, List.length_replicate, hl, hl0]; done) | (simp; done)) ?_ | refine RL.loadW Tryz.isAgg117 Tryz.sizeOf117 rfl rfl rfl rfl (by (solve | (repeat (first | exact List.Mem.head _ | apply List.Mem.tail)))) (by first | rfl | assumption | (simp only [List.length_map]; assumption) | (simp only [List.length_map, List.length_replicate, hl, hl0]; done) | (simp; done)) ?_
        first | refine RL.loadM Tryz.isAgg30 Tryz.sizeOf30 rfl rfl rfl rfl (by assumption) ?_ | refine RL.loadA Tryz.isAgg30 Tryz.sizeOf30 rfl rfl rfl rfl (by first | assumption | (apply RdsI.rds; assumption)) (by first | rfl | assumption | (simp only [List.length_map]; assumption) | (simp only [List.length_map, List.length_replicate, hl, hl0]; done) | (simp; done)) ?_ | refine RL.loadW Tryz.isAgg30 Tryz.sizeOf30 rfl rfl rfl rfl (by (solve | (repeat (first | exact List.Mem.head _ | apply List.Mem.tail)))) (by first | rfl | assumption | (simp only [List.length_map]; assumption) | (simp only [List.length_map, List.length_replicate, hl, hl0]; done) | (simp; done)) ?_
        refine RL.call (own_any f q cc f.b.length hf rfl hb) Tryz.call92 rfl rfl rfl rfl rfl (by repeat (first | exact Pick.nil | apply Pick.take | apply Pick.leave)) (Lend.inI mS .nil) (.inl rfl) ?_
        rintro _ _ _ ⟨ob1, cap1, rfl, rfl, rfl, ho1⟩
        refine RL.mapUpdate keyQ Tryz.runUnderlying132 rfl rfl rfl rfl rfl rfl rfl ⟨p, rfl⟩ (by repeat (first | exact Upd.here | apply Upd.there)) ?_
        refine RL.nil ?_
        refine NQ.seq ?_
        refine CW.only .nil ?_
        refine CW.seq ?_
        refine CW.region (ef := []) (bk := []) ?_
        refine RL.assign rfl rfl rfl rfl ?_
        refine RL.nil ?_
        refine NQ.seq ?_
        refine CW.ret ?_
        have he := setQ_enc (⟨f, ob1, cap1⟩ : FrO) hm
        refine RQ.rea (fun _ h => h) (H' := [bodyO ⟨f, ob1, cap1⟩, bufI b r, mapQ r (c ++ [(p, ⟨f, ob1, cap1⟩)])]) (by rw [mapQ, ← he]; exact (by repeat (first | exact Rea.nil | (apply Rea.cons; (solve | (repeat (first | exact Del.here | apply Del.there))))))) ?_
        exact RQ.post (res1 rfl rfl) (.give (.keep (.keep .nil))) ⟨0, _, rfl, .yes _ rfl (by rw [qputE, if_neg h0, if_neg hm, if_neg h16]), rfl⟩
end Go.Proofs.YtbdnebedmdoehaaGreat

namespace Go.Proofs.YtbdnebedmdoehaaGreat
open Go.PK
/-! ### Items -/
def itc (x : Pq × FrO) : List Value := plcq x.1 ++ x.2.cells
theorem itc_len {x : Pq × FrO} (h : x.2.Ok) : (itc x).length = 23 := by
  have := fro_len h
  simp only [itc, List.length_append, this]; rfl
theorem ones_it (x : Pq × FrO) : ∀ u ∈ itc x, u.oneCell' = true := by
  have h : ones (itc x) = true := by
    have h1 : ones x.2.cells = true := ones_fr _ rfl
    have e : ones (itc x) = (true && (true && ones x.2.cells)) := rfl
    rw [e, h1]; rfl
  exact fun u hu => ones_spec h u hu
theorem itc_fm_len {l : Bq} (h : ∀ x ∈ l, x.2.Ok) : ∀ x ∈ l, (itc x).length = 23 := fun x hx => itc_len (h x hx)
theorem fill_it {p : Pq} {x : FrO} (hx : x.Ok) {places : Array (Nat × Nat)} (hp : places = #[(0, 2), (2, 21)]) :
    fillL (places[·]?) (itc ((0, 0), fro0)) [(0, plq p), (1, frV x)] = some (itc (p, x)) := by
  subst hp
  refine fill_seg (vs := plcq p) [] (plcq (0, 0)) fro0.cells rfl rfl rfl rfl rfl rfl ?_
  refine fill_seg (vs := x.cells) (plcq p) fro0.cells [] rfl (agg_cells _) (by simp) rfl (fro_len fro0_ok) (fro_len hx) ?_
  simp [fillL, itc]
theorem fill_one23 {cs zs : List Value} (h : cs.length = 23) (hz : zs.length = 23) : fillL (fun j => some (j * 23, 23)) (reps zs 1) [(0, .agg cs.toArray)] = some cs := by
  refine fill_seg [] zs [] rfl (agg_cells _) (by simp [reps]) rfl hz h ?_
  simp [fillL]
theorem itc_snoc (l : Bq) (x : Pq × FrO) : (l ++ [x]).flatMap itc = l.flatMap itc ++ itc x := by simp
/-! ### Take -/
def ltQ (x y : Pq) : Prop := x.1 < y.1 ∨ x.1 = y.1 ∧ x.2 < y.2
structure TakeO (c : Bq) (iv : Int) (T c' : Bq) : Prop where
  p : (T ++ c').Perm c
  le : ∀ x ∈ T, x.1.1 ≤ iv
  gt : ∀ x ∈ c', iv < x.1.1
  s : (keysQ T).Pairwise ltQ
def TakeR (b r : Nat) (c : Bq) (iv : Int) : Value → List It → List It → Prop := fun v I' H' => ∃ ob cp T c', TakeO c iv T c' ∧ v = slO ob T.length cp ∧ I' = [] ∧ H' = [own ob cp 139 23 T.length (T.flatMap itc), bufI b r, mapQ r c']
theorem plsQ_sorted {c : Bq} (hn : (keysQ c).Nodup) : (plsQ c).Pairwise ltQ := by
  have h1 : (plsQ c).Pairwise fun x y => lexLe x y = true := List.pairwise_mergeSort (fun a b c h1 h2 => by simp [lexLe] at *; omega) (fun a b => by simp [lexLe]; omega) _
  have h2 : (plsQ c).Nodup := (List.mergeSort_perm (keysQ c) lexLe).nodup_iff.2 hn
  refine (h1.and h2).imp (fun {x y} ⟨h, hne⟩ => ?_)
  obtain ⟨a, b⟩ := x; obtain ⟨d, e⟩ := y
  have hne' : ¬ (a = d ∧ b = e) := fun h => hne (by rw [h.1, h.2])
  simp [lexLe] at h
  show a < d ∨ a = d ∧ b < e
  omega
/-- Half way through. -/
structure TakeI (c : Bq) (iv : Int) (i : Nat) (T c' : Bq) : Prop where
  hi : i ≤ c.length
  p : (T ++ c').Perm c
  k : keysQ T = (plsQ c).take i
  le : ∀ x ∈ T, x.1.1 ≤ iv
theorem TakeI.len {c : Bq} {iv : Int} {i : Nat} {T c' : Bq} (h : TakeI c iv i T c') : T.length = i := by
  have := congrArg List.length h.k
  rw [List.length_take, plsQ_len] at this
  have hi := h.hi
  simp [keysQ] at this; omega
theorem TakeI.rest {c : Bq} {iv : Int} {i : Nat} {T c' : Bq} (h : TakeI c iv i T c') : (keysQ c').Perm ((plsQ c).drop i) := by
  have h1 : (keysQ T ++ keysQ c').Perm (keysQ c) := by
    have := h.p.map Prod.fst
    rwa [List.map_append] at this
  have h2 : ((plsQ c).take i ++ (plsQ c).drop i).Perm (keysQ c) := by rw [List.take_append_drop]; exact List.mergeSort_perm _ _
  rw [h.k] at h1
  exact (List.perm_append_left_iff _).1 (h1.trans h2.symm)
theorem TakeI.next {c : Bq} {iv : Int} {i : Nat} {T c' : Bq} (h : TakeI c iv i T c') (hn : (keysQ c).Nodup) {p : Pq} (hp : (plsQ c)[i]? = some p) (hle : p.1 ≤ iv) : ∃ x, lkQ p c' = some x ∧ (p, x) ∈ c ∧ TakeI c iv (i + 1) (T ++ [(p, x)]) (delQ p c') := by
  have hlt := (List.getElem?_eq_some_iff.1 hp).1
  have hm : p ∈ keysQ c' := h.rest.mem_iff.2 (by rw [List.drop_eq_getElem_cons hlt, (List.getElem?_eq_some_iff.1 hp).2]; exact List.mem_cons_self)
  cases hx : lkQ p c' with
  | none => exact absurd hm (lkQ_none.1 hx)
  | some x =>
    refine ⟨x, rfl, h.p.mem_iff.1 (List.mem_append_right _ (lkQ_some hx)), by rw [plsQ_len] at hlt; exact hlt, ?_, ?_, ?_⟩
    · rw [List.append_assoc]
      exact (List.Perm.append_left T (delQ_perm hx).symm).trans h.p
    · rw [List.take_succ_eq_append_getElem hlt, ← h.k, (List.getElem?_eq_some_iff.1 hp).2]; simp [keysQ]
    · intro y hy
      rcases List.mem_append.1 hy with hy | hy
      · exact h.le y hy
      · rw [List.mem_singleton] at hy; subst hy; exact hle
theorem TakeI.fin {c : Bq} {iv : Int} {i : Nat} {T c' : Bq} (h : TakeI c iv i T c') (hn : (keysQ c).Nodup) (hp : ∀ p, (plsQ c)[i]? = some p → iv < p.1) : TakeO c iv T c' := by
  have hs := plsQ_sorted hn
  refine ⟨h.p, h.le, fun x hx => ?_, by rw [h.k]; exact hs.sublist (List.take_sublist _ _)⟩
  have hm : x.1 ∈ (plsQ c).drop i := h.rest.mem_iff.1 (List.mem_map.2 ⟨x, hx, rfl⟩)
  have hlt : i < (plsQ c).length := by
    rcases Nat.lt_or_ge i (plsQ c).length with h | h
    · exact h
    · rw [List.drop_of_length_le h] at hm; cases hm
  have h0 := hp _ (List.getElem?_eq_getElem hlt)
  rw [List.drop_eq_getElem_cons hlt] at hm
  have hs2 : ((plsQ c).drop i).Pairwise ltQ := hs.sublist (List.drop_sublist _ _)
  rw [List.drop_eq_getElem_cons hlt, List.pairwise_cons] at hs2
  rcases List.mem_cons.1 hm with hm | hm
  · rw [hm]; exact h0
  · have := hs2.1 _ hm
    simp only [ltQ] at this
    omega
theorem TakeI.zero (c : Bq) (iv : Int) : TakeI c iv 0 [] c := ⟨Nat.zero_le _, List.Perm.refl _, by simp [keysQ], fun x hx => by cases hx⟩
theorem own_rds {I H : List It} {b cap n sz i : Nat} {T : TypeId} {α : Type} {f : α → List Value} {R : List α} {x : α} (hm : own (some b) cap T sz n (R.flatMap f) ∈ H) (hx : R[i]? = some x) (hf : ∀ y ∈ R, (f y).length = sz) : Rds I H ⟨b, 0 + i * sz, none⟩ (f x) := by
  have h := Rds.part (I := I) (H := H) (j := i * sz) (vs := f x) (Rds.own hm) (fun q u hu => by
    have hlt : q < sz := by have := (List.getElem?_eq_some_iff.1 hu).1; rwa [hf x (List.mem_of_getElem? hx)] at this
    rw [get_flat (f := f) (n := sz) hf hx hlt]; exact hu)
  rwa [add_none] at h
theorem own_rdsI {I H : List It} {b cap n sz i : Nat} {T : TypeId} {α : Type} {f : α → List Value} {R : List α} {x : α} (hm : own (some b) cap T sz n (R.flatMap f) ∈ I) (hx : R[i]? = some x) (hf : ∀ y ∈ R, (f y).length = sz) : Rds I H ⟨b, 0 + i * sz, none⟩ (f x) := fun w hw => by
  have h0 : (own (some b) cap T sz n (R.flatMap f)).A w := hw.i _ hm
  have hs : Sat [] [own (some b) cap T sz n (R.flatMap f)] w := ⟨by simp, by simpa using h0, by simp [own], by simp⟩
  exact own_rds (I := []) (List.Mem.head _) hx hf w hs
theorem qtake_any (b r : Nat) (c : Bq) (iv : Int) (hc : ∀ x ∈ c, x.2.Ok) (hl : c.length ≤ 100000) : Spc Tryz.prog 48 #[.pointer (some ⟨b, 0, none⟩), .int .u32 iv] [] [bufI b r, mapQ r c] (TakeR b r c iv) := by
  refine Spc.fact (p := (keysQ c).Nodup) (fun w hw => mapQ_nodup (hw.h _ (List.Mem.tail _ (List.Mem.head _)))) (fun hnd => ?_)
  refine Spc.enter Tryz.func48 rfl rfl rfl (fun w0 hw0 => ?_)
  refine CW.seq ?_
  refine CW.region (ef := []) (bk := []) ?_
  refine RL.assign rfl rfl rfl rfl ?_
  refine RL.nil ?_
  refine NQ.seq ?_
  refine CW.seq ?_
  refine CW.region (ef := []) (bk := []) ?_
  refine RL.assign rfl rfl rfl rfl ?_
  refine RL.nil ?_
  refine NQ.seq ?_
  refine CW.seq ?_
  refine CW.seq ?_
  refine CW.region (ef := [1]) (bk := [1]) ?_
  refine RL.move rfl rfl rfl rfl ?_
  refine RL.callq (places_any b r c hl) Tryz.call58 rfl rfl rfl rfl rfl (.inr rfl) ?_
  rintro _ _ _ ⟨po, pc, rfl, rfl, rfl⟩
  refine RL.lenS Tryz.runUnderlying82 rfl rfl rfl rfl ?_
  refine RL.move rfl rfl rfl rfl ?_
  refine RL.nil ?_
  refine NQ.seq ?_
  refine CW.block ?_
  refine CW.ownNone (e := 139) 23 ?_
  refine CW.fact (p := po = none → c.length = 0) (fun w hC e => by subst e; exact own_none (hC.s.h _ (List.Mem.tail _ (List.Mem.head _)))) (fun hpo => ?_)
  refine CW.loop (γ := Nat × Bq × Bq × Option Nat × Nat) (fun g => TakeI c iv g.1 g.2.1 g.2.2.1) (fun g => [(0, .pointer (some ⟨b, 0, none⟩)), (1, .int .u32 iv), (5, slO g.2.2.2.1 g.1 g.2.2.2.2), (9, slO po c.length pc), (10, .int .i64 (c.length : Int)), (11, .int .i64 (g.1 : Int))]) (fun _ => [])
    (fun g => [own g.2.2.2.1 g.2.2.2.2 139 23 g.1 (g.2.1.flatMap itc), own po pc 117 2 c.length ((plsQ c).flatMap plcq), mapQ r g.2.2.1, bufI b r]) (fun g => c.length - g.1) (0, [], c, none, 0) (TakeI.zero c iv)
    (.cons rfl (.cons rfl (.cons rfl (.cons rfl (.cons rfl (.cons rfl .nil)))))) (fun w h => h.rea (fun _ h => h) (by repeat (first | exact Rea.nil | (apply Rea.cons; (solve | (repeat (first | exact Del.here | apply Del.there))))))) ?_
  rintro ⟨i, T, c', ob, cp⟩ hI
  dsimp only at hI ⊢
  have hi := hI.hi
  have hTl := hI.len
  refine CW.seq ?_
  refine CW.region (ef := []) (bk := []) ?_
  refine RL.bin rfl rfl rfl rfl rfl rfl ?_
  refine RL.nil ?_
  refine NQ.seq ?_
  refine CW.seq ?_
  refine CW.cond rfl (fun hlt => ?_) (fun hlt => ?_)
  ·
    have hlt : i < c.length := by simp at hlt; omega
    obtain ⟨pb, rfl⟩ : ∃ q, po = some q := by
      cases po with
      | none => exact absurd (hpo rfl) (by omega)
      | some q => exact ⟨q, rfl⟩
    have hp := List.getElem?_eq_getElem (show i < (plsQ c).length by rw [plsQ_len]; exact hlt)
    generalize (plsQ c)[i]'(show i < (plsQ c).length by rw [plsQ_len]; exact hlt) = p at hp
    refine CW.skip ?_
    refine NQ.seq ?_
    refine CW.seq ?_
    refine CW.block ?_
    refine CW.seq ?_
    refine CW.region (ef := [2, 3]) (bk := [3]) ?_
    refine RL.idxAt (j := i) Tryz.runUnderlying82 Tryz.sizeOf117 rfl rfl rfl rfl rfl rfl (hlt) ?_
    refine RL.loadN (vs := [.int .u32 p.1, .int .u8 p.2]) Tryz.isAgg117 Tryz.sizeOf117 rfl rfl rfl rfl (own_rds (f := plcq) (List.Mem.tail _ (List.Mem.head _)) hp (fun _ _ => rfl)) ?_
    refine RL.alloc Tryz.zeroValue117 rfl rfl rfl rfl rfl ?_
    intro b1
    refine RL.store (vs := [_, _]) Tryz.sizeOf117 rfl rfl rfl rfl rfl rfl rfl rfl rfl (by repeat (first | exact Upd.here | apply Upd.there)) ?_
    refine RL.nil ?_
    refine NQ.seq ?_
    refine CW.seq ?_
    refine CW.seq ?_
    refine CW.region (ef := []) (bk := []) ?_
    refine RL.fieldAddr fa_117_0 rfl rfl rfl rfl ?_
    refine RL.loadq Tryz.isAgg24 rfl rfl rfl rfl ?_
    refine RL.move rfl rfl rfl rfl ?_
    refine RL.bin rfl rfl rfl rfl rfl rfl ?_
    refine RL.nil ?_
    refine NQ.seq ?_
    refine CW.only (.cons (k := 0) rfl (.cons (k := 1) rfl (.cons (k := 5) rfl (.cons (k := 7) rfl (.cons (k := 9) rfl (.cons (k := 10) rfl (.cons (k := 11) rfl (.cons (k := 18) rfl .nil)))))))) ?_
    refine CW.cond rfl (fun hgt => ?_) (fun hgt => ?_)
    ·
      refine CW.exit ?_
      refine XQ.seq ?_
      refine XQ.miss rfl ?_
      refine XQ.seq ?_
      refine XQ.seq ?_
      refine XQ.hit ?_
      refine NQ.seq ?_
      refine CW.only (.cons (k := 5) rfl .nil) ?_
      refine CW.seq ?_
      refine CW.region (ef := []) (bk := []) ?_
      refine RL.move rfl rfl rfl rfl ?_
      refine RL.assign rfl rfl rfl rfl ?_
      refine RL.nil ?_
      refine NQ.seq ?_
      refine CW.ret ?_
      have hgt : iv < p.1 := by simpa using hgt
      have hF := hI.fin hnd (fun q hq => by rw [hp] at hq; cases hq; exact hgt)
      subst hTl
      refine RQ.rea (fun _ h => h) (H' := [own ob cp 139 23 T.length (T.flatMap itc), bufI b r, mapQ r c']) (by repeat (first | exact Rea.nil | (apply Rea.cons; (solve | (repeat (first | exact Del.here | apply Del.there)))))) ?_
      exact RQ.post (res1 rfl rfl) (.keep (.keep (.keep .nil))) ⟨ob, cp, T, c', hF, rfl, rfl, rfl⟩
    ·
      have hgt : p.1 ≤ iv := by simpa using hgt
      obtain ⟨x, hlk, hxc, hI2⟩ := hI.next hnd hp hgt
      have hx : x.Ok := hc _ hxc
      have h23 := itc_len (x := (p, x)) hx
      have hlv : (lookV (plq p) (encQ c')).getD (frV fro0) = frV x := by rw [atQ_enc, hlk]; rfl
      refine CW.skip ?_
      refine NQ.seq ?_
      refine CW.seq ?_
      refine CW.regionD (Sq.of [0, 1, 2, 3, 4, 5, 6, 7, 8, 9, 10, 11]) [9, 10] [10] [0, 2, 3, 4, 8, 11] mixed (by kernel_rfl) ?_
      refine RL.move rfl rfl rfl rfl ?_
      first | refine RL.loadM Tryz.isAgg117 Tryz.sizeOf117 rfl rfl rfl rfl (by assumption) ?_ | refine RL.loadA Tryz.isAgg117 Tryz.sizeOf117 rfl rfl rfl rfl (by first | assumption | (apply RdsI.rds; assumption)) (by first | rfl | assumption | (simp only [List.length_map]; assumption) | (simp only [List.length_map, List.length_replicate]; done) | (simp; done)) ?_ | refine RL.loadW Tryz.isAgg117 Tryz.sizeOf117 rfl rfl rfl rfl (by (solve | (repeat (first | exact List.Mem.head _ | apply List.Mem.tail)))) (by first | rfl | assumption | (simp only [List.length_map]; assumption) | (simp only [List.length_map, List.length_replicate]; done) | (simp; done)) ?_
      refine RL.move rfl rfl rfl rfl ?_
      refine RL.nilCheck rfl rfl rfl rfl ?_
      refine RL.fieldAddr fa_134_0 rfl rfl rfl rfl ?_
      refine RL.loadq Tryz.isAgg132 rfl rfl rfl rfl ?_
      first | refine RL.loadM Tryz.isAgg117 Tryz.sizeOf117 rfl rfl rfl rfl (by assumption) ?_ | refine RL.loadA Tryz.isAgg117 Tryz.sizeOf117 rfl rfl rfl rfl (by first | assumption | (apply RdsI.rds; assumption)) (by first | rfl | assumption | (simp only [List.length_map]; assumption) | (simp only [List.length_map, List.length_replicate]; done) | (simp; done)) ?_ | refine RL.loadW Tryz.isAgg117 Tryz.sizeOf117 rfl rfl rfl rfl (by (solve | (repeat (first | exact List.Mem.head _ | apply List.Mem.tail)))) (by first | rfl | assumption | (simp only [List.length_map]; assumption) | (simp only [List.length_map, List.length_replicate]; done) | (simp; done)) ?_
      refine RL.lookup keyQ Tryz.runUnderlying132 Tryz.zeroValue30 rfl rfl rfl rfl rfl ⟨p, rfl⟩ (MapAt.own (by repeat (first | exact List.Mem.head _ | apply List.Mem.tail))) ?_
      refine RL.cast (d := 26) rfl hlv ?_
      refine RL.buildS (itc (p, x)) Tryz.zeroValue139 pl_139 rfl rfl rfl rfl (fill_it hx rfl) ?_
      refine RL.buildSlice (itc (p, x)) Tryz.runUnderlying100 Tryz.sizeOf139 Tryz.zeroValue139 rfl rfl (by decide) (by decide) rfl rfl rfl rfl rfl (fill_one23 h23 rfl) ?_
      intro b2
      refine RL.appendA el_100 rfl rfl rfl rfl rfl rfl rfl (by first | exact ⟨(.take (Pick.none _)), rfl⟩ | exact ⟨(.leave (.take (Pick.none _))), rfl⟩ | exact ⟨(.leave (.leave (.take (Pick.none _)))), rfl⟩ | exact ⟨(.leave (.leave (.leave (.take (Pick.none _))))), rfl⟩ | exact ⟨(.leave (.leave (.leave (.leave (.take (Pick.none _)))))), rfl⟩ | exact ⟨(.leave (.leave (.leave (.leave (.leave (.take (Pick.none _))))))), rfl⟩ | exact ⟨(.leave (.leave (.leave (.leave (.leave (.leave (.take (Pick.none _)))))))), rfl⟩ | exact ⟨(.leave (.leave (.leave (.leave (.leave (.leave (.leave (.take (Pick.none _))))))))), rfl⟩ | exact ⟨(.leave (.leave (.leave (.leave (.leave (.leave (.leave (.leave (.take (Pick.none _)))))))))), rfl⟩ | exact ⟨(.leave (.leave (.leave (.leave (.leave (.leave (.leave (.leave (.leave (.take (Pick.none _))))))))))), rfl⟩) (Src.cel (List.Mem.head _) h23) (ones_it _) (by first | omega | (simp only [maxLen]; omega)) (by first | omega | (simp only [maxLen]; omega)) ?_
      intro ob1 cap1 ho1
      refine RL.assign rfl rfl rfl rfl ?_
      refine RL.nil ?_
      refine NQ.seq ?_
      refine CW.only (.cons (k := 0) rfl (.cons (k := 1) rfl (.cons (k := 5) rfl (.cons (k := 7) rfl (.cons (k := 9) rfl (.cons (k := 10) rfl (.cons (k := 11) rfl .nil))))))) ?_
      refine CW.regionD (Sq.of [0, 1, 2, 3, 4, 5]) [5] [5] [0, 1, 2] mixed (by kernel_rfl) ?_
      refine RL.move rfl rfl rfl rfl ?_
      refine RL.nilCheck rfl rfl rfl rfl ?_
      refine RL.fieldAddr fa_134_0 rfl rfl rfl rfl ?_
      refine RL.loadq Tryz.isAgg132 rfl rfl rfl rfl ?_
      first | refine RL.loadM Tryz.isAgg117 Tryz.sizeOf117 rfl rfl rfl rfl (by assumption) ?_ | refine RL.loadA Tryz.isAgg117 Tryz.sizeOf117 rfl rfl rfl rfl (by first | assumption | (apply RdsI.rds; assumption)) (by first | rfl | assumption | (simp only [List.length_map]; assumption) | (simp only [List.length_map, List.length_replicate]; done) | (simp; done)) ?_ | refine RL.loadW Tryz.isAgg117 Tryz.sizeOf117 rfl rfl rfl rfl (by (solve | (repeat (first | exact List.Mem.head _ | apply List.Mem.tail)))) (by first | rfl | assumption | (simp only [List.length_map]; assumption) | (simp only [List.length_map, List.length_replicate]; done) | (simp; done)) ?_
      refine RL.delete keyQ Tryz.runUnderlying132 rfl rfl rfl rfl rfl rfl ⟨p, rfl⟩ (by repeat (first | exact Upd.here | apply Upd.there)) ?_
      refine RL.nil ?_
      refine NQ.block ?_
      refine NQ.seq ?_
      refine CW.only (.cons (k := 0) rfl (.cons (k := 1) rfl (.cons (k := 5) rfl (.cons (k := 9) rfl (.cons (k := 10) rfl (.cons (k := 11) rfl .nil)))))) ?_
      refine CW.region (ef := []) (bk := []) ?_
      refine RL.binX rfl rfl rfl rfl rfl rfl (wrapV_i64 (by omega) (by omega)) ?_
      refine RL.move rfl rfl rfl rfl ?_
      refine RL.nil ?_
      refine NQ.round (g := (i, T, c', ob, cp)) (i + 1, T ++ [(p, x)], delQ p c', ob1, cap1) hI2 (by show c.length - (i + 1) < c.length - i; omega) (.cons rfl (.cons rfl (.cons rfl (.cons rfl (.cons rfl (.cons rfl .nil)))))) (fun w h => ?_)
      dsimp only
      rw [itc_snoc, show mapQ r (delQ p c') = mapI r goodQ (delV (plq p) (encQ c')) by rw [mapQ, delQ_enc]]
      exact h.rea (fun _ h => h) (by repeat (first | exact Rea.nil | (apply Rea.cons; (solve | (repeat (first | exact Del.here | apply Del.there))))))
  ·
    have hin : i = c.length := by simp at hlt; omega
    have hF := hI.fin hnd (fun q hq => by rw [List.getElem?_eq_none (by rw [plsQ_len]; omega)] at hq; cases hq)
    subst hTl
    refine CW.exit ?_
    refine XQ.seq ?_
    refine XQ.seq ?_
    refine XQ.hit ?_
    refine NQ.seq ?_
    refine CW.only (.cons (k := 5) rfl .nil) ?_
    refine CW.seq ?_
    refine CW.region (ef := []) (bk := []) ?_
    refine RL.move rfl rfl rfl rfl ?_
    refine RL.assign rfl rfl rfl rfl ?_
    refine RL.nil ?_
    refine NQ.seq ?_
    refine CW.ret ?_
    refine RQ.rea (fun _ h => h) (H' := [own ob cp 139 23 T.length (T.flatMap itc), bufI b r, mapQ r c']) (by repeat (first | exact Rea.nil | (apply Rea.cons; (solve | (repeat (first | exact Del.here | apply Del.there)))))) ?_
    exact RQ.post (res1 rfl rfl) (.keep (.keep (.keep .nil))) ⟨ob, cp, T, c', hF, rfl, rfl, rfl⟩
end Go.Proofs.YtbdnebedmdoehaaGreat
