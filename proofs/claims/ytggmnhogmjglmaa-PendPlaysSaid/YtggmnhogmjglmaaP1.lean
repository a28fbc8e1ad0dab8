import Derived.Test.YtggmnhogmjglmaaFr0
import Derived.Test.YtggmnhogmjglmaaClone
import Derived.Test.YtggmnhogmjglmaaLexSort
import Derived.Test.YtggmnhogmjglmaaPkV
namespace Go.Proofs.Ytggmnhogmjglmaa
open Go.PK

/-! ### Frames of one's own -/
structure FrO where
  f : Fr
  ob : Option Nat
  cp : Nat
abbrev FrO.sl (x : FrO) : Value := slO x.ob x.f.b.length x.cp
abbrev FrO.cells (x : FrO) : List Value := x.f.cells x.sl
abbrev frV (x : FrO) : Value := .agg x.cells.toArray
abbrev bodyO (x : FrO) : It := own x.ob x.cp 5 1 x.f.b.length (bytes x.f.b)
structure FrO.Ok (x : FrO) : Prop where
  f : x.f.Ok
  b : x.f.b.length ≤ 100000
def fr0 : Fr := ⟨0, 0, 0, 0, [], List.replicate 16 0#8⟩
def fro0 : FrO := ⟨fr0, none, 0⟩
theorem fr0_ok : fr0.Ok := ⟨by decide, by decide, by decide⟩
theorem fro0_ok : fro0.Ok := ⟨fr0_ok, by decide⟩
theorem fro_len {x : FrO} (h : x.Ok) : x.cells.length = 21 := fr_len h.f.tag _

/-! ### Places -/
abbrev Pq := Int × Int
def plq (p : Pq) : Value := .agg #[.int .u32 p.1, .int .u8 p.2]
def plcq (p : Pq) : List Value := [.int .u32 p.1, .int .u8 p.2]
def goodQ (v : Value) : Prop := ∃ p, v = plq p
theorem plq_inj {p q : Pq} : plq p = plq q ↔ p = q := by
  obtain ⟨a, b⟩ := p; obtain ⟨c, d⟩ := q
  simp [plq]
theorem same_plq (p q : Pq) : same (plq p) (plq q) = (p.1 == q.1 && p.2 == q.2) := by
  rw [Bool.eq_iff_iff, same_iff, plq_inj]
  obtain ⟨a, b⟩ := p; obtain ⟨c, d⟩ := q
  simp
theorem keyQ : KeyT Try.prog 28 goodQ where
  desc := ⟨_, Try.runUnderlying28, fun a b _ _ => .inl (by cases a <;> cases b <;> rfl)⟩
  eq := by
    rintro _ _ ⟨⟨a, b⟩, rfl⟩ ⟨⟨c, d⟩, rfl⟩ w
    rw [same_plq]
    simp [plq, Op.equal, Op.maxDepth, run_equalIn_struct, Program.fieldsOf, Op.eqFields, Go.part, go_sem]
    by_cases h1 : a = c <;> by_cases h2 : b = d <;> simp [h1, h2]
  chk := by
    rintro _ ⟨⟨a, b⟩, rfl⟩ e w
    have : ∀ n, (Instr.checkKey e (n + 2) 28 (.agg #[.int .u32 a, .int .u8 b])).run Try.prog w = .ok () w := by
      intro n
      simp [Instr.checkKey, Go.part, go_sem]
    exact this 9998
  bits := by
    rintro _ ⟨⟨a, b⟩, rfl⟩
    simp [plq, Instr.sameBits]
abbrev Bq := List (Pq × FrO)
def encQ (c : Bq) : List (Value × Value) := c.map fun x => (plq x.1, frV x.2)
def keysQ (c : Bq) : List Pq := c.map (·.1)
def delQ (p : Pq) : Bq → Bq
  | [] => []
  | (q, x) :: r => if p = q then r else (q, x) :: delQ p r
def lkQ (p : Pq) : Bq → Option FrO
  | [] => none
  | (q, x) :: r => if p = q then some x else lkQ p r
theorem lookQ (p : Pq) : ∀ c : Bq, lookV (plq p) (encQ c) = (lkQ p c).map frV
  | [] => rfl
  | (q, v) :: r => by
    have ih := lookQ p r
    by_cases h : p = q
    · subst h; simp [encQ, lookV, lkQ]
    · have h' : ¬ plq p = plq q := fun e => h (plq_inj.1 e)
      simp only [encQ] at ih
      simp [encQ, lookV, lkQ, h, h', ih]
theorem delQ_enc (p : Pq) : ∀ c : Bq, delV (plq p) (encQ c) = encQ (delQ p c)
  | [] => rfl
  | (q, u) :: r => by
    have ih := delQ_enc p r
    by_cases h : p = q
    · subst h; simp [encQ, delV, delQ]
    · have h' : ¬ plq p = plq q := fun e => h (plq_inj.1 e)
      simp only [encQ] at ih
      simp [encQ, delV, delQ, h, h', ih]
theorem setQ_enc {p : Pq} (x : FrO) : ∀ {c : Bq}, p ∉ keysQ c → setV (plq p) (frV x) (encQ c) = encQ (c ++ [(p, x)])
  | [], _ => rfl
  | (q, u) :: r, h => by
    simp only [keysQ, List.map_cons, List.mem_cons, not_or] at h
    have ih := setQ_enc x (c := r) h.2
    have h' : ¬ plq p = plq q := fun e => h.1 (plq_inj.1 e)
    simp only [encQ] at ih
    simp [encQ, setV, h', ih]
theorem lkQ_some {p : Pq} {x : FrO} : ∀ {c : Bq}, lkQ p c = some x → (p, x) ∈ c
  | (q, u) :: c, h => by
    rw [lkQ] at h
    split at h
    · next e => subst e; cases h; exact List.mem_cons_self
    · exact List.mem_cons_of_mem _ (lkQ_some h)
theorem lkQ_none {p : Pq} : ∀ {c : Bq}, lkQ p c = none ↔ p ∉ keysQ c
  | [] => by simp [lkQ, keysQ]
  | (q, u) :: c => by
    rw [lkQ]
    by_cases h : p = q
    · subst h; simp [keysQ]
    · rw [if_neg h, lkQ_none]; simp [keysQ, h]
theorem lkQ_mem {p : Pq} {x : FrO} : ∀ {c : Bq}, (keysQ c).Nodup → (p, x) ∈ c → lkQ p c = some x
  | (q, u) :: c, hn, h => by
    rw [keysQ, List.map_cons, List.nodup_cons] at hn
    rw [lkQ]
    rcases List.mem_cons.1 h with h | h
    · cases h; rw [if_pos rfl]
    · rw [if_neg (fun e => hn.1 (List.mem_map.2 ⟨_, h, e⟩))]; exact lkQ_mem hn.2 h
theorem delQ_perm {p : Pq} {x : FrO} : ∀ {c : Bq}, lkQ p c = some x → c.Perm ((p, x) :: delQ p c)
  | (q, u) :: c, h => by
    rw [lkQ] at h
    rw [delQ]
    by_cases e : p = q
    · subst e; rw [if_pos rfl] at h ⊢; cases h; exact List.Perm.refl _
    · rw [if_neg e] at h ⊢
      exact ((delQ_perm h).cons _).trans (List.Perm.swap _ _ _)
theorem encQ_keys (c : Bq) : (encQ c).map (·.1) = (keysQ c).map plq := by simp [encQ, keysQ, Function.comp_def]
theorem nodup_plq {l : List Pq} : (l.map plq).Nodup → l.Nodup
  | h => by
    refine List.Pairwise.of_map plq (fun a b hab e => hab (by rw [e])) h
theorem atQ_enc (p : Pq) (c : Bq) : (lookV (plq p) (encQ c)).getD (frV fro0) = frV ((lkQ p c).getD fro0) := by
  rw [lookQ]; cases lkQ p c <;> rfl
theorem isQ_enc (p : Pq) (c : Bq) : (lookV (plq p) (encQ c)).isSome = (lkQ p c).isSome := by
  rw [lookQ]; cases lkQ p c <;> rfl
abbrev bufI (b r : Nat) : It := cel b [.map (some r)] 68
abbrev mapQ (r : Nat) (c : Bq) : It := mapI r goodQ (encQ c)
theorem mapQ_nodup {r : Nat} {c : Bq} {w : World} (h : (mapQ r c).A w) : (keysQ c).Nodup := by
  obtain ⟨es, clock, h1, h2, h3, -⟩ := h
  rw [encQ_keys] at h3
  exact nodup_plq h3

theorem qis_yes (b r : Nat) : Spc Try.prog 36 #[.pointer (some ⟨b, 0, none⟩)] [bufI b r] [] (Is (.bool true)) := by
  refine Spc.enter Try.func36 rfl rfl rfl (fun w0 hw0 => ?_)
  refine CW.seq ?_
  refine CW.region (ef := []) (bk := []) ?_
  refine RL.assign rfl rfl rfl rfl ?_
  refine RL.nil ?_
  refine NQ.seq ?_
  refine CW.seq ?_
  refine CW.region (ef := []) (bk := []) ?_
  refine RL.move rfl rfl rfl rfl ?_
  refine RL.cmp rfl rfl rfl rfl rfl (neq_ptr Try.runUnderlying24 _) ?_
  refine RL.move rfl rfl rfl rfl ?_
  refine RL.move rfl rfl rfl rfl ?_
  refine RL.nilCheck rfl rfl rfl rfl ?_
  refine RL.fieldAddr fa_68_0 rfl rfl rfl rfl ?_
  refine RL.loadq Try.isAgg66 rfl rfl rfl rfl ?_
  refine RL.cmp rfl rfl rfl rfl rfl (neq_map Try.runUnderlying66 _) ?_
  refine RL.pickT rfl rfl rfl rfl rfl ?_
  refine RL.assign rfl rfl rfl rfl ?_
  refine RL.nil ?_
  refine NQ.seq ?_
  refine CW.only (.cons (k := 2) rfl .nil) ?_
  refine CW.ret ?_
  exact RQ.post (res1 rfl rfl) (Split.none _) ⟨rfl, rfl, rfl⟩
theorem qnew_any : Spc Try.prog 9 #[] [] [] (fun v I' H' => ∃ b r, v = .pointer (some ⟨b, 0, none⟩) ∧ I' = [] ∧ H' = [bufI b r, mapQ r []]) := by
  refine Spc.enter Try.func9 rfl rfl rfl (fun w0 hw0 => ?_)
  refine CW.seq ?_
  refine CW.region (ef := []) (bk := []) ?_
  refine RL.assign rfl rfl rfl rfl ?_
  refine RL.nil ?_
  refine NQ.seq ?_
  refine CW.seq ?_
  refine CW.region (ef := [0, 2]) (bk := []) ?_
  refine RL.makeMap (good := goodQ) rfl rfl rfl rfl (fun r => ?_)
  refine RL.buildS [_] Try.zeroValue68 pl_68 rfl rfl rfl rfl rfl ?_
  refine RL.box rfl rfl rfl rfl rfl rfl ?_
  intro b1
  refine RL.assign rfl rfl rfl rfl ?_
  refine RL.nil ?_
  refine NQ.seq ?_
  refine CW.ret ?_
  exact RQ.post (res1 rfl rfl) (.keep (.keep .nil)) ⟨b1, r, rfl, rfl, rfl⟩
theorem qlen_any (b r : Nat) (c : Bq) : Spc Try.prog 17 #[.pointer (some ⟨b, 0, none⟩)] [bufI b r, mapQ r c] [] (Is (.int .i64 (c.length : Int))) := by
  refine Spc.enter Try.func17 rfl rfl rfl (fun w0 hw0 => ?_)
  refine CW.seq ?_
  refine CW.region (ef := []) (bk := []) ?_
  refine RL.assign rfl rfl rfl rfl ?_
  refine RL.nil ?_
  refine NQ.seq ?_
  refine CW.seq ?_
  refine CW.seq ?_
  refine CW.region (ef := []) (bk := []) ?_
  refine RL.move rfl rfl rfl rfl ?_
  refine RL.callvq (qis_yes b r) Try.call36 rfl rfl rfl rfl ?_
  refine RL.not rfl rfl rfl rfl ?_
  refine RL.nil ?_
  refine NQ.seq ?_
  refine CW.condF rfl (rfl) ?_
  refine CW.skip ?_
  refine NQ.seq ?_
  refine CW.seq ?_
  refine CW.region (ef := []) (bk := []) ?_
  refine RL.move rfl rfl rfl rfl ?_
  refine RL.nilCheck rfl rfl rfl rfl ?_
  refine RL.fieldAddr fa_68_0 rfl rfl rfl rfl ?_
  refine RL.loadq Try.isAgg66 rfl rfl rfl rfl ?_
  refine RL.lenM (n := c.length) Try.runUnderlying66 rfl rfl rfl rfl (MapAt.told (List.Mem.tail _ (List.Mem.head _))) (by simp [encQ]) ?_
  refine RL.assign rfl rfl rfl rfl ?_
  refine RL.nil ?_
  refine NQ.seq ?_
  refine CW.only (.cons (k := 2) rfl .nil) ?_
  refine CW.ret ?_
  exact RQ.post (res1 rfl rfl) (Split.none _) ⟨rfl, rfl, rfl⟩
theorem own_any (f : Fr) (p : Option Addr) (c n : Nat) (hf : f.Ok) (hn : f.b.length = n) (hb : n ≤ 100000) : Spc Try.prog 37 #[.agg (f.cells (.slice p n c)).toArray] [sls p 1 n (bytes f.b)] [] (FewR f n) := by
  have hl := fr_len hf.tag (.slice p n c)
  refine Spc.enter Try.func37 rfl rfl rfl (fun w0 hw0 => ?_)
  refine CW.seq ?_
  refine CW.region (ef := [0, 1]) (bk := []) ?_
  refine RL.box rfl rfl rfl rfl rfl rfl ?_
  intro b1
  refine RL.alloc Try.zeroValue34 rfl rfl rfl rfl rfl ?_
  intro b2
  refine RL.nil ?_
  refine NQ.seq ?_
  refine CW.seq ?_
  refine CW.region (ef := [2, 4]) (bk := [4]) ?_
  refine RL.fieldAddr fa_34_4 rfl rfl rfl rfl ?_
  refine RL.loadq Try.isAgg30 rfl rfl rfl rfl ?_
  refine RL.callq (OwnB.n hn (clone_any p n c f.b hn (by omega))) Try.call51 rfl rfl rfl rfl rfl (.inl rfl) ?_
  rintro _ _ _ ⟨ob1, cap1, rfl, rfl, rfl, ho1⟩
  refine RL.fieldAddr fa_34_4 rfl rfl rfl rfl ?_
  refine RL.storeSeg (cs := f.cells (.slice p n c)) (cs' := f.cells (slO ob1 n cap1)) (vs := [slO ob1 n cap1]) [.int .i64 f.kd, .int .i64 f.sr, .int .u32 (f.ep : Int), .int .u64 (f.ct : Int)] [.slice p n c] (bytes f.tag) Try.sizeOf30 rfl rfl rfl rfl rfl rfl rfl rfl rfl rfl rfl rfl rfl (by repeat (first | exact Upd.here | apply Upd.there)) ?_
  refine RL.nil ?_
  refine NQ.seq ?_
  refine CW.seq ?_
  refine CW.region (ef := [1]) (bk := [1]) ?_
  have hl2 := fr_len hf.tag (slO ob1 n cap1)
  refine RL.loadW Try.isAgg34 Try.sizeOf34 rfl rfl rfl rfl (by repeat (first | exact List.Mem.head _ | apply List.Mem.tail)) hl2 ?_
  refine RL.storeW Try.sizeOf34 rfl rfl rfl rfl rfl rfl rfl (ones_fr _ rfl) (by repeat (first | exact Upd.here | apply Upd.there)) hl2 rfl ?_
  refine RL.nil ?_
  refine NQ.seq ?_
  refine CW.only (.cons (k := 2) rfl .nil) ?_
  refine CW.ret ?_
  refine RQ.rea (fun _ h => h) (H' := [own ob1 cap1 5 1 n (bytes f.b), cel b2 (f.cells (slO ob1 n cap1)) 34]) (by repeat (first | exact Rea.nil | (apply Rea.cons; (solve | (repeat (first | exact Del.here | apply Del.there)))))) ?_
  exact RQ.post (resW rfl rfl Try.isAgg34 Try.sizeOf34 (by repeat (first | exact List.Mem.head _ | apply List.Mem.tail)) hl2) (.keep (Split.none _)) ⟨ob1, cap1, rfl, rfl, rfl, trivial⟩
end Go.Proofs.Ytggmnhogmjglmaa
