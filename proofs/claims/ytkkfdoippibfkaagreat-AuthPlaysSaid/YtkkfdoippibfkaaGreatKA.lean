import Derived.Test.YtkkfdoippibfkaaGreatBase
import Derived.Test.YtkkfdoippibfkaaGreatPE
import Derived.Test.YtkkfdoippibfkaaGreatChain7
namespace Go.Proofs.YtkkfdoippibfkaaGreat
open Go.PK

/-- A source in a ring of keys: its number, root, epoch, grace; and where it lies. -/
structure One where
  s : Nat
  k : List B8
  e : Nat
  g : Int
  b : Nat
def One.cells (o : One) : List Value := bytes o.k ++ [.int .u32 (o.e : Int), .int .i64 o.g]
abbrev oneI (o : One) : It := cel o.b o.cells 137
def goodI (v : Value) : Prop := ∃ n : Int, v = .int .i64 n
def pl (s e : Int) : Value := .agg #[.int .i64 s, .int .u32 e]
def goodP (v : Value) : Prop := ∃ s e : Int, v = pl s e
def c1 (T : List One) : List (Value × Value) := T.map fun o => (.int .i64 (o.s : Int), .pointer (some ⟨o.b, 0, none⟩))
theorem pl_inj {a b c d : Int} : pl a b = pl c d ↔ a = c ∧ b = d := by simp [pl]
theorem same_pl (a b c d : Int) : same (pl a b) (pl c d) = (a == c && b == d) := by
  rw [Bool.eq_iff_iff, same_iff, pl_inj]; simp
theorem keyI : KeyT Tryz.prog 3 goodI where
  desc := ⟨_, Tryz.runUnderlying3, fun a b ha hb => by
    obtain ⟨m, rfl⟩ := ha; obtain ⟨n, rfl⟩ := hb
    by_cases h : m = n <;> simp [Instr.sameNow, same, h]⟩
  eq := by
    rintro _ _ ⟨a, rfl⟩ ⟨c, rfl⟩ w
    by_cases h : a = c <;> simp [Op.equal, Op.maxDepth, same, h, Go.part, go_sem]
  chk := by
    rintro _ ⟨a, rfl⟩ e w
    have : ∀ n, (Instr.checkKey e (n + 2) 3 (.int .i64 a)).run Tryz.prog w = .ok () w := by
      intro n
      simp [Instr.checkKey, Go.part, go_sem]
    exact this 9998
  bits := by
    rintro _ ⟨a, rfl⟩
    simp [Instr.sameBits]
theorem keyP : KeyT Tryz.prog 160 goodP where
  desc := ⟨_, Tryz.runUnderlying160, fun a b _ _ => .inl (by cases a <;> cases b <;> rfl)⟩
  eq := by
    rintro _ _ ⟨a, b, rfl⟩ ⟨c, d, rfl⟩ w
    rw [same_pl]
    simp [pl, Op.equal, Op.maxDepth, run_equalIn_struct, Program.fieldsOf, Op.eqFields, Go.part, go_sem]
    by_cases h1 : a = c <;> by_cases h2 : b = d <;> simp [h1, h2]
  chk := by
    rintro _ ⟨a, b, rfl⟩ e w
    have : ∀ n, (Instr.checkKey e (n + 2) 160 (.agg #[.int .i64 a, .int .u32 b])).run Tryz.prog w = .ok () w := by
      intro n
      simp [Instr.checkKey, Go.part, go_sem]
    exact this 9998
  bits := by
    rintro _ ⟨a, b, rfl⟩
    simp [pl, Instr.sameBits]
end Go.Proofs.YtkkfdoippibfkaaGreat

namespace Go.Proofs.YtkkfdoippibfkaaGreat
open Go.PK

def mayB (s : Int) : Bool := decide (0 ≤ s) && decide (s < 8)
def tickB (t : Int) : Bool := decide (0 ≤ t) && decide (t ≤ 1099511627776)
def atO (T : List One) (s : Int) : Option One := T.find? fun o => (o.s : Int) == s
theorem look_c1 (s : Int) : ∀ T : List One, lookV (.int .i64 s) (c1 T) = (atO T s).map fun o => .pointer (some ⟨o.b, 0, none⟩)
  | [] => rfl
  | o :: T => by
    by_cases h : (o.s : Int) = s
    · simp [c1, lookV, atO, h]
    · have := look_c1 s T
      simp only [c1, atO] at this
      simp [c1, lookV, atO, h, Ne.symm h, this]
theorem may_any (s : Int) : Spc Tryz.prog 85 #[.int .i64 s] [] [] (Is (.bool (mayB s))) := by
  refine Spc.enter Tryz.func85 rfl rfl rfl (fun w0 hw0 => ?_)
  refine CW.seq ?_
  refine CW.region (ef := []) (bk := []) ?_
  refine RL.assign rfl rfl rfl rfl ?_
  refine RL.nil ?_
  refine NQ.seq ?_
  refine CW.seq ?_
  refine CW.region (ef := []) (bk := []) ?_
  refine RL.move rfl rfl rfl rfl ?_
  refine RL.bin rfl rfl rfl rfl rfl rfl ?_
  refine RL.move rfl rfl rfl rfl ?_
  apply RL.andB (d := 5) (dp := 8) (l' := (Sq.of [6])) rfl (.cons (k := 2) rfl .nil)
  ·
    intro hb3 K3
    refine RL.move rfl rfl rfl rfl ?_
    refine RL.bin rfl rfl rfl rfl rfl rfl ?_
    refine RL.pickT rfl rfl rfl rfl rfl ?_
    exact K3 _ (.cons rfl (.cons (k := 2) rfl .nil))
  ·
    intro hb3 K3
    refine RL.skip rfl rfl rfl rfl ?_
    refine RL.skip rfl rfl rfl rfl ?_
    refine RL.pickF rfl rfl rfl rfl rfl ?_
    exact K3 _ (.cons rfl (.cons (k := 2) rfl .nil))
  refine RL.assign rfl rfl rfl rfl ?_
  refine RL.nil ?_
  refine NQ.seq ?_
  refine CW.ret ?_
  exact RQ.post (res1 rfl rfl) (Split.none _) ⟨by simp [mayB], rfl, rfl⟩
theorem ktick_any (s : Int) : Spc Tryz.prog 78 #[.int .i64 s] [] [] (Is (.bool (tickB s))) := by
  refine Spc.enter Tryz.func78 rfl rfl rfl (fun w0 hw0 => ?_)
  refine CW.seq ?_
  refine CW.region (ef := []) (bk := []) ?_
  refine RL.assign rfl rfl rfl rfl ?_
  refine RL.nil ?_
  refine NQ.seq ?_
  refine CW.seq ?_
  refine CW.region (ef := []) (bk := []) ?_
  refine RL.move rfl rfl rfl rfl ?_
  refine RL.bin rfl rfl rfl rfl rfl rfl ?_
  refine RL.move rfl rfl rfl rfl ?_
  apply RL.andB (d := 5) (dp := 8) (l' := (Sq.of [6])) rfl (.cons (k := 2) rfl .nil)
  ·
    intro hb3 K3
    refine RL.move rfl rfl rfl rfl ?_
    refine RL.bin rfl rfl rfl rfl rfl rfl ?_
    refine RL.pickT rfl rfl rfl rfl rfl ?_
    exact K3 _ (.cons rfl (.cons (k := 2) rfl .nil))
  ·
    intro hb3 K3
    refine RL.skip rfl rfl rfl rfl ?_
    refine RL.skip rfl rfl rfl rfl ?_
    refine RL.pickF rfl rfl rfl rfl rfl ?_
    exact K3 _ (.cons rfl (.cons (k := 2) rfl .nil))
  refine RL.assign rfl rfl rfl rfl ?_
  refine RL.nil ?_
  refine NQ.seq ?_
  refine CW.ret ?_
  exact RQ.post (res1 rfl rfl) (Split.none _) ⟨by simp [tickB], rfl, rfl⟩
theorem rmay_any (s : Int) : Spc Tryz.prog 55 #[.int .i64 s] [] [] (Is (.bool (mayB s))) := by
  refine Spc.enter Tryz.func55 rfl rfl rfl (fun w0 hw0 => ?_)
  refine CW.seq ?_
  refine CW.region (ef := []) (bk := []) ?_
  refine RL.assign rfl rfl rfl rfl ?_
  refine RL.nil ?_
  refine NQ.seq ?_
  refine CW.seq ?_
  refine CW.region (ef := []) (bk := []) ?_
  refine RL.move rfl rfl rfl rfl ?_
  refine RL.bin rfl rfl rfl rfl rfl rfl ?_
  refine RL.move rfl rfl rfl rfl ?_
  apply RL.andB (d := 5) (dp := 8) (l' := (Sq.of [6])) rfl (.cons (k := 2) rfl .nil)
  ·
    intro hb3 K3
    refine RL.move rfl rfl rfl rfl ?_
    refine RL.bin rfl rfl rfl rfl rfl rfl ?_
    refine RL.pickT rfl rfl rfl rfl rfl ?_
    exact K3 _ (.cons rfl (.cons (k := 2) rfl .nil))
  ·
    intro hb3 K3
    refine RL.skip rfl rfl rfl rfl ?_
    refine RL.skip rfl rfl rfl rfl ?_
    refine RL.pickF rfl rfl rfl rfl rfl ?_
    exact K3 _ (.cons rfl (.cons (k := 2) rfl .nil))
  refine RL.assign rfl rfl rfl rfl ?_
  refine RL.nil ?_
  refine NQ.seq ?_
  refine CW.ret ?_
  exact RQ.post (res1 rfl rfl) (Split.none _) ⟨by simp [mayB], rfl, rfl⟩
theorem rktick_any (s : Int) : Spc Tryz.prog 56 #[.int .i64 s] [] [] (Is (.bool (tickB s))) := by
  refine Spc.enter Tryz.func56 rfl rfl rfl (fun w0 hw0 => ?_)
  refine CW.seq ?_
  refine CW.region (ef := []) (bk := []) ?_
  refine RL.assign rfl rfl rfl rfl ?_
  refine RL.nil ?_
  refine NQ.seq ?_
  refine CW.seq ?_
  refine CW.region (ef := []) (bk := []) ?_
  refine RL.move rfl rfl rfl rfl ?_
  refine RL.bin rfl rfl rfl rfl rfl rfl ?_
  refine RL.move rfl rfl rfl rfl ?_
  apply RL.andB (d := 5) (dp := 8) (l' := (Sq.of [6])) rfl (.cons (k := 2) rfl .nil)
  ·
    intro hb3 K3
    refine RL.move rfl rfl rfl rfl ?_
    refine RL.bin rfl rfl rfl rfl rfl rfl ?_
    refine RL.pickT rfl rfl rfl rfl rfl ?_
    exact K3 _ (.cons rfl (.cons (k := 2) rfl .nil))
  ·
    intro hb3 K3
    refine RL.skip rfl rfl rfl rfl ?_
    refine RL.skip rfl rfl rfl rfl ?_
    refine RL.pickF rfl rfl rfl rfl rfl ?_
    exact K3 _ (.cons rfl (.cons (k := 2) rfl .nil))
  refine RL.assign rfl rfl rfl rfl ?_
  refine RL.nil ?_
  refine NQ.seq ?_
  refine CW.ret ?_
  exact RQ.post (res1 rfl rfl) (Split.none _) ⟨by simp [tickB], rfl, rfl⟩
def findV (T : List One) (s : Int) (right : Bool) : Value × Int := if right = true ∧ mayB s = true then match atO T s with
  | none => (.pointer none, 5)
  | some o => (.pointer (some ⟨o.b, 0, none⟩), 0) else (.pointer none, 2)
abbrev ringI (r m1 m2 : Nat) : It := cel r [.map (some m1), .map (some m2)] 126
theorem find_any (r m1 m2 : Nat) (T : List One) (s : Int) (right : Bool) : Spc Tryz.prog 63 #[.pointer (some ⟨r, 0, none⟩), .int .i64 s, .bool right] [ringI r m1 m2, mapI m1 goodI (c1 T)] [] (Is (.tuple #[(findV T s right).1, .int .i64 (findV T s right).2])) := by
  refine Spc.enter Tryz.func63 rfl rfl rfl (fun w0 hw0 => ?_)
  refine CW.seq ?_
  refine CW.region (ef := []) (bk := []) ?_
  refine RL.assign rfl rfl rfl rfl ?_
  refine RL.assign rfl rfl rfl rfl ?_
  refine RL.nil ?_
  refine NQ.seq ?_
  refine CW.seq ?_
  refine CW.block ?_
  refine CW.seq ?_
  refine CW.region (ef := []) (bk := []) ?_
  refine RL.move rfl rfl rfl rfl ?_
  refine RL.cmp rfl rfl rfl rfl rfl (eql_ptr Tryz.runUnderlying69 _) ?_
  refine RL.move rfl rfl rfl rfl ?_
  apply RL.orB (d := 12) (dp := 18) (l' := (Sq.of [9])) rfl (.cons (k := 0) rfl (.cons (k := 1) rfl (.cons (k := 2) rfl (.cons (k := 6) rfl (.cons (k := 7) rfl .nil)))))
  ·
    intro hb3 K3
    refine RL.move rfl rfl rfl rfl ?_
    refine RL.nilCheck rfl rfl rfl rfl ?_
    refine RL.fieldAddr fa_126_0 rfl rfl rfl rfl ?_
    refine RL.loadq Tryz.isAgg123 rfl rfl rfl rfl ?_
    refine RL.cmp rfl rfl rfl rfl rfl (eql_map Tryz.runUnderlying123 _) ?_
    refine RL.pickF rfl rfl rfl rfl rfl ?_
    exact K3 _ (.cons rfl (.cons (k := 0) rfl (.cons (k := 1) rfl (.cons (k := 2) rfl (.cons (k := 6) rfl (.cons (k := 7) rfl .nil))))))
  ·
    intro hb3 K3
    refine RL.skip rfl rfl rfl rfl ?_
    refine RL.skip rfl rfl rfl rfl ?_
    refine RL.skip rfl rfl rfl rfl ?_
    refine RL.skip rfl rfl rfl rfl ?_
    refine RL.skip rfl rfl rfl rfl ?_
    refine RL.pickT rfl rfl rfl rfl rfl ?_
    exact K3 _ (.cons rfl (.cons (k := 0) rfl (.cons (k := 1) rfl (.cons (k := 2) rfl (.cons (k := 6) rfl (.cons (k := 7) rfl .nil))))))
  refine RL.assign rfl rfl rfl rfl ?_
  refine RL.nil ?_
  refine NQ.seq ?_
  refine CW.condF rfl ((by simp)) ?_
  refine CW.seq ?_
  refine CW.region (ef := []) (bk := []) ?_
  refine RL.move rfl rfl rfl rfl ?_
  refine RL.not rfl rfl rfl rfl ?_
  refine RL.move rfl rfl rfl rfl ?_
  apply RL.orB (d := 22) (dp := 26) (l' := (Sq.of [7])) rfl (.cons (k := 0) rfl (.cons (k := 1) rfl (.cons (k := 6) rfl (.cons (k := 7) rfl .nil))))
  ·
    intro hb3 K3
    refine RL.move rfl rfl rfl rfl ?_
    refine RL.callvq (may_any s) Tryz.call85 rfl rfl rfl rfl ?_
    refine RL.not rfl rfl rfl rfl ?_
    refine RL.pickF rfl rfl rfl rfl rfl ?_
    exact K3 _ (.cons rfl (.cons (k := 0) rfl (.cons (k := 1) rfl (.cons (k := 6) rfl (.cons (k := 7) rfl .nil)))))
  ·
    intro hb3 K3
    refine RL.skip rfl rfl rfl rfl ?_
    refine RL.skip rfl rfl rfl rfl ?_
    refine RL.skip rfl rfl rfl rfl ?_
    refine RL.pickT rfl rfl rfl rfl rfl ?_
    exact K3 _ (.cons rfl (.cons (k := 0) rfl (.cons (k := 1) rfl (.cons (k := 6) rfl (.cons (k := 7) rfl .nil)))))
  refine RL.assign rfl rfl rfl rfl ?_
  refine RL.nil ?_
  refine NQ.seq ?_
  refine CW.cond rfl (fun hr => ?_) (fun hr => ?_)
  ·
    refine CW.seq ?_
    refine CW.region (ef := []) (bk := []) ?_
    refine RL.assign rfl rfl rfl rfl ?_
    refine RL.assign rfl rfl rfl rfl ?_
    refine RL.nil ?_
    refine NQ.seq ?_
    refine CW.ret ?_
    refine RQ.block ?_
    refine RQ.seq ?_
    have hr : ¬ (right = true ∧ mayB s = true) := by
      rintro ⟨e1, e2⟩; simp [e1, e2] at hr
    exact RQ.post (res2 rfl rfl rfl) (Split.none _) ⟨by rw [findV, if_neg hr], rfl, rfl⟩
  ·
    have hr : right = true ∧ mayB s = true := by
      revert hr; cases right <;> cases mayB s <;> simp
    refine CW.skip ?_
    refine NQ.block ?_
    refine NQ.seq ?_
    refine CW.seq ?_
    refine CW.region (ef := []) (bk := []) ?_
    refine RL.move rfl rfl rfl rfl ?_
    refine RL.nilCheck rfl rfl rfl rfl ?_
    refine RL.fieldAddr fa_126_0 rfl rfl rfl rfl ?_
    refine RL.loadq Tryz.isAgg123 rfl rfl rfl rfl ?_
    refine RL.move rfl rfl rfl rfl ?_
    refine RL.lookup keyI Tryz.runUnderlying123 Tryz.zeroValue133 rfl rfl rfl rfl rfl ⟨s, rfl⟩ (MapAt.told (by repeat (first | exact List.Mem.head _ | apply List.Mem.tail))) ?_
    rw [look_c1]
    cases ho : atO T s with
    | none =>
      refine RL.assign rfl rfl rfl rfl ?_
      refine RL.nil ?_
      refine NQ.seq ?_
      refine CW.only (.cons (k := 8) rfl .nil) ?_
      refine CW.seq ?_
      refine CW.seq ?_
      refine CW.region (ef := []) (bk := []) ?_
      refine RL.move rfl rfl rfl rfl ?_
      refine RL.cmp rfl rfl rfl rfl rfl (eql_ptr Tryz.runUnderlying133 _) ?_
      refine RL.nil ?_
      refine NQ.seq ?_
      refine CW.condT rfl ((by simp)) ?_
      refine CW.seq ?_
      refine CW.region (ef := []) (bk := []) ?_
      refine RL.assign rfl rfl rfl rfl ?_
      refine RL.assign rfl rfl rfl rfl ?_
      refine RL.nil ?_
      refine NQ.seq ?_
      refine CW.ret ?_
      refine RQ.seq ?_
      exact RQ.post (res2 rfl rfl rfl) (Split.none _) ⟨by rw [findV, if_pos hr, ho], rfl, rfl⟩
    | some o =>
      refine RL.assign rfl rfl rfl rfl ?_
      refine RL.nil ?_
      refine NQ.seq ?_
      refine CW.only (.cons (k := 8) rfl .nil) ?_
      refine CW.seq ?_
      refine CW.seq ?_
      refine CW.region (ef := []) (bk := []) ?_
      refine RL.move rfl rfl rfl rfl ?_
      refine RL.cmp rfl rfl rfl rfl rfl (eql_ptr Tryz.runUnderlying133 _) ?_
      refine RL.nil ?_
      refine NQ.seq ?_
      refine CW.condF rfl ((by simp)) ?_
      refine CW.skip ?_
      refine NQ.seq ?_
      refine CW.seq ?_
      refine CW.region (ef := []) (bk := []) ?_
      refine RL.move rfl rfl rfl rfl ?_
      refine RL.assign rfl rfl rfl rfl ?_
      refine RL.assign rfl rfl rfl rfl ?_
      refine RL.nil ?_
      refine NQ.seq ?_
      refine CW.ret ?_
      exact RQ.post (res2 rfl rfl rfl) (Split.none _) ⟨by rw [findV, if_pos hr, ho]; rfl, rfl, rfl⟩
theorem RdsN.told {I : List It} {b off n : Nat} {cs vs : List Value} {T : TypeId} (hm : cel b cs T ∈ I) (hv : ∀ j u, vs[j]? = some u → cs[off + j]? = some u) (hl : vs.length = n) : RdsN I ⟨b, off, none⟩ n vs := ⟨fun _ => Rds.celI hm hv, hl⟩
theorem RQ.rea {Q : Exit → Act → World → Prop} {N : Nat} {E : Env} {w0 : World} {S : List Nat} {I H : List It} {I' H' : List It} (hi : ∀ x ∈ I', x ∈ I) (r : Rea H H') (h : RQ Q N E w0 S I' H') : RQ Q N E w0 S I H := fun a w ha hw => h a w ha (hw.rea hi r)
end Go.Proofs.YtkkfdoippibfkaaGreat

namespace Go.Proofs.YtkkfdoippibfkaaGreat
open Go.PK

def epochL : List B8 := [101#8, 112#8, 111#8, 99#8, 104#8]
/-- A source's key of an epoch. -/
def keyE (k : List B8) (e : Nat) : Value := .agg (bytes (deriveK k epochL e)).toArray
theorem one_e {o : One} (h : o.k.length = 32) : o.cells[0 + 32]? = some (.int .u32 (o.e : Int)) := by simp [One.cells, List.getElem?_append, h]
theorem one_g {o : One} (h : o.k.length = 32) : o.cells[0 + 33]? = some (.int .i64 o.g) := by simp [One.cells, List.getElem?_append, h]
theorem one_len {o : One} (h : o.k.length = 32) : o.cells.length = 34 := by simp [One.cells, h]
/-- Is a key taken out when a source enters an epoch? -/
def delB (o : One) (g' : Int) (s e : Int) : Bool := s == (o.s : Int) && (!(e == (o.e : Int)) || g' == -1)
theorem look_mem {k v : Value} : ∀ {c : List (Value × Value)}, lookV k c = some v → (k, v) ∈ c
  | (a, u) :: c, h => by
    rw [lookV] at h
    split at h
    · next e => subst e; cases h; exact List.Mem.head _
    · exact List.Mem.tail _ (look_mem h)
theorem mem_look {k v : Value} : ∀ {c : List (Value × Value)}, (c.map (·.1)).Nodup → (k, v) ∈ c → lookV k c = some v
  | (a, u) :: c, hn, h => by
    rw [List.map_cons, List.nodup_cons] at hn
    rw [lookV]
    rcases List.mem_cons.1 h with h | h
    · cases h; rw [if_pos rfl]
    · rw [if_neg (fun e => hn.1 (by rw [← e]; exact List.mem_map.2 ⟨_, h, rfl⟩))]; exact mem_look hn.2 h
open Classical in
theorem look_set {k k' v : Value} : ∀ {c : List (Value × Value)}, lookV k (setV k' v c) = if k = k' then some v else lookV k c
  | [] => by simp [setV, lookV]
  | (a, u) :: c => by
    rw [setV]
    by_cases h : k' = a
    · subst h; rw [if_pos rfl]; simp only [lookV]; by_cases h2 : k = k' <;> simp [h2]
    · rw [if_neg h]; simp only [lookV]; rw [look_set]
      by_cases h2 : k = a
      · subst h2; simp [Ne.symm h]
      · simp [h2]
open Classical in
theorem look_del {k k' : Value} : ∀ {c : List (Value × Value)}, (c.map (·.1)).Nodup → lookV k (delV k' c) = if k = k' then none else lookV k c
  | [], _ => by simp [delV, lookV]
  | (a, u) :: c, hn => by
    rw [List.map_cons, List.nodup_cons] at hn
    rw [delV]
    by_cases h : k' = a
    · subst h
      rw [if_pos rfl]; simp only [lookV]
      by_cases h2 : k = k'
      · subst h2
        rw [if_pos rfl]
        cases hl : lookV k c with
        | none => rfl
        | some v => exact absurd (List.mem_map.2 ⟨_, look_mem hl, rfl⟩) hn.1
      · simp [h2]
    · rw [if_neg h]; simp only [lookV]; rw [look_del hn.2]
      by_cases h2 : k = a
      · subst h2; simp [Ne.symm h]
      · simp [h2]
theorem mem_del {k : Value} {p : Value × Value} {c : List (Value × Value)} (hn : (c.map (·.1)).Nodup) (h : p ∈ delV k c) : p ∈ c ∧ p.1 ≠ k := by
  have h1 := (delV_sublist (k := k) c).subset h
  refine ⟨h1, fun e => ?_⟩
  have h2 : lookV p.1 (delV k c) = some p.2 := mem_look (hn.sublist ((delV_sublist c).map _)) h
  rw [look_del hn, if_pos e] at h2
  cases h2
theorem mapIt_facts {r it : Nat} {good : Value → Prop} {c left : List (Value × Value)} {w : World} (h : (mapIt r it good c left).A w) : (c.map (·.1)).Nodup ∧ (left.map (·.1)).Nodup ∧ (∀ p ∈ left, p ∈ c ∧ good p.1) := by
  obtain ⟨es, clock, since, seen, g1, g2, g3, g4, g5, g6, g7, g8, g9⟩ := h
  have hsub : left.Sublist c := by rw [g9, ← g3]; exact List.filter_sublist.map _
  exact ⟨g4, g4.sublist (hsub.map _), fun p hp => ⟨hsub.subset hp, g5 p (hsub.subset hp)⟩⟩
theorem mapIt_ne {r it : Nat} {good : Value → Prop} {c left : List (Value × Value)} {w : World} {w0 : World} {S : List Nat} {I B : List It} (h : Cls w0 S I (mapIt r it good c left :: B) w) : r ≠ it := fun e => by
  have := h.s.nd
  simp [mapIt, e] at this
/-- Behind the loop: what is left of the keys. -/
structure Went (o : One) (g' : Int) (c0 c left : List (Value × Value)) : Prop where
  a : ∀ s e v, (pl s e, v) ∈ c → (pl s e, v) ∈ left ∨ delB o g' s e = false
  b : ∀ s e, delB o g' s e = false → lookV (pl s e) c = lookV (pl s e) c0
theorem Went.fin {o : One} {g' : Int} {c0 c : List (Value × Value)} (h : Went o g' c0 c []) (s e : Int) : lookV (pl s e) c = if delB o g' s e = true then none else lookV (pl s e) c0 := by
  by_cases hd : delB o g' s e = true
  · rw [if_pos hd]
    cases hl : lookV (pl s e) c with
    | none => rfl
    | some v =>
      rcases h.a s e v (look_mem hl) with h | h
      · cases h
      · rw [hd] at h; cases h
  · rw [if_neg hd]; exact h.b s e (by simpa using hd)
theorem mem_erase {α : Type} {l : List α} {j : Nat} {p x : α} (hp : l[j]? = some p) (hx : x ∈ l) : x = p ∨ x ∈ l.eraseIdx j := by
  induction l generalizing j with
  | nil => cases hx
  | cons a l ih =>
    cases j with
    | zero =>
      simp at hp; subst hp
      rcases List.mem_cons.1 hx with h | h
      · exact .inl h
      · exact .inr (by simpa using h)
    | succ j =>
      simp at hp
      rcases List.mem_cons.1 hx with h | h
      · exact .inr (by simp [h])
      · rcases ih hp h with h | h
        · exact .inl h
        · exact .inr (by simp [h])
theorem Went.keep {o : One} {g' : Int} {c0 c left : List (Value × Value)} {j : Nat} {s e : Int} {v : Value} (h : Went o g' c0 c left) (hj : left[j]? = some (pl s e, v)) (hd : delB o g' s e = false) : Went o g' c0 c (left.eraseIdx j) := by
  refine ⟨fun s' e' v' hm => ?_, h.b⟩
  rcases h.a s' e' v' hm with h | h
  · rcases mem_erase hj h with h | h
    · rw [Prod.mk.injEq, pl_inj] at h
      obtain ⟨⟨rfl, rfl⟩, -⟩ := h
      exact .inr hd
    · exact .inl h
  · exact .inr h
theorem Went.cut {o : One} {g' : Int} {c0 c left : List (Value × Value)} {j : Nat} {s e : Int} {v : Value} (h : Went o g' c0 c left) (hn : (c.map (·.1)).Nodup) (hj : left[j]? = some (pl s e, v)) (hd : delB o g' s e = true) : Went o g' c0 (delV (pl s e) c) (left.eraseIdx j) := by
  refine ⟨fun s' e' v' hm => ?_, fun s' e' hd' => ?_⟩
  · obtain ⟨h1, h2⟩ := mem_del hn hm
    rcases h.a s' e' v' h1 with h | h
    · rcases mem_erase hj h with h | h
      · rw [Prod.mk.injEq] at h; exact absurd h.1 h2
      · exact .inl h
    · exact .inr h
  · rw [look_del hn, if_neg (fun (he : pl s' e' = pl s e) => by rw [pl_inj] at he; obtain ⟨rfl, rfl⟩ := he; rw [hd] at hd'; cases hd')]
    exact h.b s' e' hd'
theorem erase_nodup {α : Type} {l : List α} {j : Nat} {p : α} (hp : l[j]? = some p) (hn : l.Nodup) : p ∉ l.eraseIdx j := by
  induction l generalizing j with
  | nil => simp at hp
  | cons a l ih =>
    rw [List.nodup_cons] at hn
    cases j with
    | zero => simp at hp; subst hp; simpa using hn.1
    | succ j =>
      simp at hp
      have hm := List.mem_of_getElem? hp
      simp only [List.eraseIdx_cons_succ, List.mem_cons, not_or]
      exact ⟨fun e => hn.1 (e ▸ hm), ih hp hn.2⟩
end Go.Proofs.YtkkfdoippibfkaaGreat

namespace Go.Proofs.YtkkfdoippibfkaaGreat
open Go.PK

theorem set_e {o : One} (h : o.k.length = 32) (e' : Nat) : spl o.cells (0 + 32) [.int .u32 (e' : Int)] = ({ o with e := e' } : One).cells := by
  have h' : (bytes o.k).length = 32 := by rw [List.length_map, h]
  rw [spl_eq _ _ _ (by simp [One.cells, h])]
  simp only [One.cells]
  generalize bytes o.k = K at h'
  rw [List.take_left' (by omega), List.drop_append, List.drop_of_length_le (by simp [h']), h']; simp
theorem set_g {o : One} (h : o.k.length = 32) (g' : Int) : spl o.cells (0 + 33) [.int .i64 g'] = ({ o with g := g' } : One).cells := by
  have h' : (bytes o.k).length = 32 := by rw [List.length_map, h]
  rw [spl_eq _ _ _ (by simp [One.cells, h])]
  simp only [One.cells]
  generalize bytes o.k = K at h'
  rw [List.take_append, List.drop_append, List.take_of_length_le (by omega), List.drop_of_length_le (by simp [h']), h']; simp
theorem derive_w (k : List B8) (hk : k.length = 32) (lb : List B8) (hlb : lb.length ≤ 10000000) (n : Nat) (hn : n < 4294967296) :
    Spc Tryz.prog 45 #[.agg (bytes k).toArray, .string (txt lb), .int .u64 (IntKind.u64.wrap (n : Int))] [] [] (Is (.agg (bytes (deriveK k lb n)).toArray)) := by
  rw [show IntKind.u64.wrap (n : Int) = (n : Int) by simp [IntKind.wrap, IntKind.bits, IntKind.signed]; omega]
  exact derive_any k hk lb hlb n (by omega)
theorem rderive_w (k : List B8) (hk : k.length = 32) (lb : List B8) (hlb : lb.length ≤ 10000000) (n : Nat) (hn : n < 4294967296) :
    Spc Tryz.prog 65 #[.agg (bytes k).toArray, .string (txt lb), .int .u64 (IntKind.u64.wrap (n : Int))] [] [] (Is (.agg (bytes (deriveK k lb n)).toArray)) := by
  rw [show IntKind.u64.wrap (n : Int) = (n : Int) by simp [IntKind.wrap, IntKind.bits, IntKind.signed]; omega]
  exact rderive_any k hk lb hlb n (by omega)
theorem one_k (o : One) : ∀ (j : Nat) (u : Value), (bytes o.k)[j]? = some u → o.cells[0 + j]? = some u := fun j u h => by
  have hlt := (List.getElem?_eq_some_iff.1 h).1
  rw [Nat.zero_add, One.cells, List.getElem?_append_left hlt]; exact h
theorem enter_any (r m1 m2 : Nat) (o : One) (c0 : List (Value × Value)) (e' : Nat) (g' : Int) (hk : o.k.length = 32) (he : o.e < 4294967296) (he' : e' < 4294967296) :
    Spc Tryz.prog 72 #[.pointer (some ⟨r, 0, none⟩), .int .i64 (o.s : Int), .pointer (some ⟨o.b, 0, none⟩), .int .u32 (e' : Int), .int .i64 g'] [] [ringI r m1 m2, mapI m2 goodP c0, oneI o]
      (fun v I' H' => v = .tuple #[] ∧ I' = [] ∧ ∃ c, (∀ s e, lookV (pl s e) c = if s = (o.s : Int) ∧ e = (e' : Int) then some (keyE o.k e') else if delB o g' s e = true then none else lookV (pl s e) c0) ∧
        H' = [mapI m2 goodP c, ringI r m1 m2, oneI { o with e := e', g := g' }]) := by
  have h1 := one_e hk
  have h2 := one_g hk
  have h3 := one_len hk
  refine Spc.enter Tryz.func72 rfl rfl rfl (fun w0 hw0 => ?_)
  refine CW.seq ?_
  refine CW.seq ?_
  refine CW.region (ef := [4]) (bk := [4]) ?_
  refine RL.move rfl rfl rfl rfl ?_
  refine RL.nilCheck rfl rfl rfl rfl ?_
  refine RL.fieldAddr fa_126_1 rfl rfl rfl rfl ?_
  refine RL.loadq Tryz.isAgg124 rfl rfl rfl rfl ?_
  refine RL.range Tryz.runUnderlying124 rfl rfl rfl rfl rfl rfl (by repeat (first | exact Pick.nil | apply Pick.take | apply Pick.leave)) (fun it => ?_)
  refine RL.nil ?_
  refine NQ.seq ?_
  refine CW.block ?_
  refine CW.loop (γ := List (Value × Value) × List (Value × Value)) (fun g => Went o g' c0 g.1 g.2) (fun _ => [(0, .pointer (some ⟨r, 0, none⟩)), (1, .int .i64 (o.s : Int)), (2, .pointer (some ⟨o.b, 0, none⟩)), (3, .int .u32 (e' : Int)), (4, .int .i64 g'), (15, .pointer (some ⟨it, 0, none⟩))]) (fun _ => [])
    (fun g => [mapIt m2 it goodP g.1 g.2, ringI r m1 m2, oneI o]) (fun g => g.2.length) (c0, c0) ⟨fun _ _ _ h => .inl h, fun _ _ _ => rfl⟩ (.cons rfl (.cons rfl (.cons rfl (.cons rfl (.cons rfl (.cons rfl .nil)))))) (fun w h => h.rea (fun _ h => h) (by repeat (first | exact Rea.nil | (apply Rea.cons; (solve | (repeat (first | exact Del.here | apply Del.there))))))) ?_
  rintro ⟨c, left⟩ hw
  dsimp only at hw ⊢
  refine CW.fact (p := ((c.map (·.1)).Nodup ∧ (left.map (·.1)).Nodup ∧ (∀ p ∈ left, p ∈ c ∧ goodP p.1)) ∧ m2 ≠ it) (fun w hC => ⟨mapIt_facts (hC.s.h _ (List.Mem.head _)), mapIt_ne hC⟩) (fun ⟨⟨hn1, hn2, hn3⟩, hne⟩ => ?_)
  refine CW.seq ?_
  refine CW.region (ef := [0]) (bk := [0]) ?_
  refine RL.nextC rfl rfl rfl rfl rfl rfl (.take (Pick.none _)) (fun hl => ?_) (fun q p hp => ?_)
  · subst hl
    refine RL.extract rfl rfl rfl rfl rfl ?_
    refine RL.nil ?_
    refine NQ.seq ?_
    refine CW.seq ?_
    refine CW.condF rfl ((by simp)) ?_
    refine CW.exit ?_
    refine XQ.seq ?_
    refine XQ.seq ?_
    refine XQ.hit ?_
    refine NQ.seq ?_
    refine CW.seq ?_
    refine CW.unrange ?_
    refine CW.region (ef := [6, 9]) (bk := [6, 9]) ?_
    refine RL.move rfl rfl rfl rfl ?_
    refine RL.move rfl rfl rfl rfl ?_
    refine RL.move rfl rfl rfl rfl ?_
    refine RL.move rfl rfl rfl rfl ?_
    refine RL.nilCheck rfl rfl rfl rfl ?_
    refine RL.fieldAddr fa_137_1 rfl rfl rfl rfl ?_
    refine RL.storeX (cs' := ({ o with e := e' } : One).cells) (vs := [_]) (set_e hk e') Tryz.sizeOf32 rfl rfl rfl rfl rfl rfl rfl rfl (by repeat (first | exact Upd.here | apply Upd.there)) (by rw [h3]; simp) ?_
    refine RL.nilCheck rfl rfl rfl rfl ?_
    refine RL.fieldAddr fa_137_2 rfl rfl rfl rfl ?_
    refine RL.storeX (cs' := ({ o with e := e', g := g' } : One).cells) (vs := [_]) (set_g (o := { o with e := e' }) hk g') Tryz.sizeOf3 rfl rfl rfl rfl rfl rfl rfl rfl (by repeat (first | exact Upd.here | apply Upd.there)) (by rw [one_len (o := { o with e := e' }) hk]; simp) ?_
    refine RL.nil ?_
    refine NQ.seq ?_
    refine CW.only (.cons (k := 0) rfl (.cons (k := 1) rfl (.cons (k := 2) rfl (.cons (k := 3) rfl .nil)))) ?_
    refine CW.regionD (Sq.of [0, 1, 2, 3, 4, 5, 6, 7, 8, 9, 10, 11, 12, 13, 14]) [14] [14] [0, 1, 2, 4, 5, 6, 7, 8, 9, 11, 12] mixed (by kernel_rfl) ?_
    refine RL.move rfl rfl rfl rfl ?_
    refine RL.nilCheck rfl rfl rfl rfl ?_
    refine RL.fieldAddr fa_126_1 rfl rfl rfl rfl ?_
    refine RL.loadq Tryz.isAgg124 rfl rfl rfl rfl ?_
    refine RL.move rfl rfl rfl rfl ?_
    refine RL.move rfl rfl rfl rfl ?_
    refine RL.buildS [_, _] Tryz.zeroValue160 pl_160 rfl rfl rfl rfl rfl ?_
    refine RL.move rfl rfl rfl rfl ?_
    refine RL.nilCheck rfl rfl rfl rfl ?_
    refine RL.fieldAddr fa_137_0 rfl rfl rfl rfl ?_
    refine RL.loadA Tryz.isAgg56 Tryz.sizeOf56 rfl rfl rfl rfl (vs := bytes o.k) (Rds.cel (by repeat (first | exact List.Mem.head _ | apply List.Mem.tail)) (one_k { o with e := e', g := g' })) (by rw [List.length_map, hk]) ?_
    refine RL.move rfl rfl rfl rfl ?_
    refine RL.conv Tryz.runUnderlying32 Tryz.runUnderlying33 rfl rfl rfl rfl ?_
    refine RL.callvq (derive_w o.k hk epochL (by decide) e' he') Tryz.call45 rfl rfl rfl rfl ?_
    refine RL.mapUpdate keyP Tryz.runUnderlying124 rfl rfl rfl rfl rfl rfl rfl ⟨(o.s : Int), (e' : Int), rfl⟩ (by repeat (first | exact Upd.here | apply Upd.there)) ?_
    refine RL.nil ?_
    refine RQ.post (res0 rfl) (.keep (.keep (.keep .nil))) ⟨rfl, rfl, _, fun s e => ?_, rfl⟩
    by_cases h : s = (o.s : Int) ∧ e = (e' : Int)
    · obtain ⟨rfl, rfl⟩ := h
      rw [if_pos ⟨rfl, rfl⟩]
      show lookV (pl (o.s : Int) (e' : Int)) (setV (pl (o.s : Int) (e' : Int)) _ c) = _
      rw [look_set, if_pos rfl]; rfl
    · rw [if_neg h]
      show lookV (pl s e) (setV (pl (o.s : Int) (e' : Int)) _ c) = _
      rw [look_set, if_neg (fun he => h (pl_inj.1 he))]
      exact hw.fin s e
  ·
    obtain ⟨-, ps, pe, hpe⟩ := hn3 p (List.mem_of_getElem? hp)
    obtain ⟨pk, pv⟩ := p
    dsimp only at hpe
    subst hpe
    have hnl : pl ps pe ∉ (left.eraseIdx q).map (·.1) := by rw [← eraseIdx_map]; exact erase_nodup (by simp [hp]) hn2
    refine RL.extract rfl rfl rfl rfl rfl ?_
    refine RL.nil ?_
    refine NQ.seq ?_
    refine CW.seq ?_
    refine CW.condT rfl ((by simp)) ?_
    refine CW.skip ?_
    refine NQ.seq ?_
    refine CW.block ?_
    refine CW.seq ?_
    refine CW.region (ef := [2, 3]) (bk := [3]) ?_
    refine RL.entry rfl rfl rfl rfl (List.Mem.head _) ?_
    refine RL.extract rfl rfl rfl rfl rfl ?_
    refine RL.alloc Tryz.zeroValue160 rfl rfl rfl rfl rfl ?_
    intro b1
    refine RL.store (vs := [_, _]) Tryz.sizeOf160 rfl rfl rfl rfl rfl rfl rfl rfl rfl (by repeat (first | exact Upd.here | apply Upd.there)) ?_
    refine RL.nil ?_
    refine NQ.seq ?_
    refine CW.seq ?_
    refine CW.regionD (Sq.of [0, 1, 2, 3, 4, 5, 6, 7, 8, 9, 10, 11, 12, 13, 14, 15, 16]) [] [] [0, 2, 3, 4, 5, 7, 8, 9, 11, 12, 13, 14, 15, 16] mixed (by kernel_rfl) ?_
    refine RL.fieldAddr fa_160_0 rfl rfl rfl rfl ?_
    refine RL.loadq Tryz.isAgg3 rfl rfl rfl rfl ?_
    refine RL.move rfl rfl rfl rfl ?_
    refine RL.bin rfl rfl rfl rfl rfl rfl ?_
    refine RL.move rfl rfl rfl rfl ?_
    refine RL.part (d := 24) rfl (fun ha => ?_) (fun ha => ?_)
    ·
      refine RL.fieldAddr fa_160_1 rfl rfl rfl rfl ?_
      refine RL.loadq Tryz.isAgg32 rfl rfl rfl rfl ?_
      refine RL.move rfl rfl rfl rfl ?_
      refine RL.nilCheck rfl rfl rfl rfl ?_
      refine RL.fieldAddr fa_137_1 rfl rfl rfl rfl ?_
      refine RL.loadq Tryz.isAgg32 rfl rfl rfl rfl ?_
      refine RL.bin rfl rfl rfl rfl rfl rfl ?_
      refine RL.move rfl rfl rfl rfl ?_
      refine RL.part (d := 32) rfl (fun hb => ?_) (fun hb => ?_)
      ·
        refine RL.skip rfl rfl rfl rfl ?_
        refine RL.skip rfl rfl rfl rfl ?_
        refine RL.pickT rfl rfl rfl rfl rfl ?_
        refine RL.pickT rfl rfl rfl rfl rfl ?_
        refine RL.nil ?_
        refine NQ.seq ?_
        refine CW.only (.cons (k := 0) rfl (.cons (k := 1) rfl (.cons (k := 2) rfl (.cons (k := 3) rfl (.cons (k := 4) rfl (.cons (k := 10) rfl (.cons (k := 15) rfl (.cons (k := 36) rfl .nil)))))))) ?_
        refine CW.condT rfl rfl ?_
        refine CW.perm (List.Perm.swap _ _ _) ?_
        refine CW.uncur ?_
        refine CW.regionD (Sq.of [0, 1, 2, 3, 4, 5]) [5] [5] [0, 1, 2] mixed (by kernel_rfl) ?_
        refine RL.move rfl rfl rfl rfl ?_
        refine RL.nilCheck rfl rfl rfl rfl ?_
        refine RL.fieldAddr fa_126_1 rfl rfl rfl rfl ?_
        refine RL.loadq Tryz.isAgg124 rfl rfl rfl rfl ?_
        refine RL.loadN (vs := [_, _]) Tryz.isAgg160 Tryz.sizeOf160 rfl rfl rfl rfl (by first | (apply Rds.cel; (solve | (repeat (first | exact List.Mem.head _ | apply List.Mem.tail))); exact at_spec ⟨rfl, rfl, trivial⟩) | (apply Rds.celI; (solve | (repeat (first | exact List.Mem.head _ | apply List.Mem.tail))); exact at_spec ⟨rfl, rfl, trivial⟩) | assumption | (apply RdsI.rds; assumption)) ?_
        refine RL.deleteIt keyP Tryz.runUnderlying124 rfl rfl rfl rfl rfl rfl ⟨ps, pe, rfl⟩ hnl hne (by repeat (first | exact Upd.here | apply Upd.there)) ?_
        refine RL.nil ?_
        refine NQ.block ?_
        refine NQ.round (g := (c, left)) (delV (pl ps pe) c, left.eraseIdx q) (hw.cut hn1 hp (by simp_all [delB])) (by show (left.eraseIdx q).length < left.length; rw [List.length_eraseIdx_of_lt (List.getElem?_eq_some_iff.1 hp).1]; have := (List.getElem?_eq_some_iff.1 hp).1; omega) (.cons rfl (.cons rfl (.cons rfl (.cons rfl (.cons rfl (.cons rfl .nil)))))) (fun w h => h.rea (fun _ h => h) (by repeat (first | exact Rea.nil | (apply Rea.cons; (solve | (repeat (first | exact Del.here | apply Del.there)))))))
      ·
        refine RL.move rfl rfl rfl rfl ?_
        refine RL.bin rfl rfl rfl rfl rfl rfl ?_
        refine RL.pickF rfl rfl rfl rfl rfl ?_
        refine RL.pickT rfl rfl rfl rfl rfl ?_
        refine RL.nil ?_
        refine NQ.seq ?_
        refine CW.only (.cons (k := 0) rfl (.cons (k := 1) rfl (.cons (k := 2) rfl (.cons (k := 3) rfl (.cons (k := 4) rfl (.cons (k := 10) rfl (.cons (k := 15) rfl (.cons (k := 36) rfl .nil)))))))) ?_
        refine CW.cond rfl (fun hc => ?_) (fun hc => ?_)
        ·
          refine CW.perm (List.Perm.swap _ _ _) ?_
          refine CW.uncur ?_
          refine CW.regionD (Sq.of [0, 1, 2, 3, 4, 5]) [5] [5] [0, 1, 2] mixed (by kernel_rfl) ?_
          refine RL.move rfl rfl rfl rfl ?_
          refine RL.nilCheck rfl rfl rfl rfl ?_
          refine RL.fieldAddr fa_126_1 rfl rfl rfl rfl ?_
          refine RL.loadq Tryz.isAgg124 rfl rfl rfl rfl ?_
          refine RL.loadN (vs := [_, _]) Tryz.isAgg160 Tryz.sizeOf160 rfl rfl rfl rfl (by first | (apply Rds.cel; (solve | (repeat (first | exact List.Mem.head _ | apply List.Mem.tail))); exact at_spec ⟨rfl, rfl, trivial⟩) | (apply Rds.celI; (solve | (repeat (first | exact List.Mem.head _ | apply List.Mem.tail))); exact at_spec ⟨rfl, rfl, trivial⟩) | assumption | (apply RdsI.rds; assumption)) ?_
          refine RL.deleteIt keyP Tryz.runUnderlying124 rfl rfl rfl rfl rfl rfl ⟨ps, pe, rfl⟩ hnl hne (by repeat (first | exact Upd.here | apply Upd.there)) ?_
          refine RL.nil ?_
          refine NQ.block ?_
          refine NQ.round (g := (c, left)) (delV (pl ps pe) c, left.eraseIdx q) (hw.cut hn1 hp (by simp_all [delB])) (by show (left.eraseIdx q).length < left.length; rw [List.length_eraseIdx_of_lt (List.getElem?_eq_some_iff.1 hp).1]; have := (List.getElem?_eq_some_iff.1 hp).1; omega) (.cons rfl (.cons rfl (.cons rfl (.cons rfl (.cons rfl (.cons rfl .nil)))))) (fun w h => h.rea (fun _ h => h) (by repeat (first | exact Rea.nil | (apply Rea.cons; (solve | (repeat (first | exact Del.here | apply Del.there)))))))
        ·
          refine CW.skip ?_
          refine NQ.block ?_
          refine NQ.round (g := (c, left)) (c, left.eraseIdx q) (hw.keep hp (by simp_all [delB])) (by show (left.eraseIdx q).length < left.length; rw [List.length_eraseIdx_of_lt (List.getElem?_eq_some_iff.1 hp).1]; have := (List.getElem?_eq_some_iff.1 hp).1; omega) (.cons rfl (.cons rfl (.cons rfl (.cons rfl (.cons rfl (.cons rfl .nil)))))) (fun w h => (h.rea (H' := [mapCt m2 it goodP c (left.eraseIdx q) (pl ps pe, pv), ringI r m1 m2, oneI o]) (fun _ h => h) (by repeat (first | exact Rea.nil | (apply Rea.cons; (solve | (repeat (first | exact Del.here | apply Del.there))))))).uncur)
    ·
      refine RL.skip rfl rfl rfl rfl ?_
      refine RL.skip rfl rfl rfl rfl ?_
      refine RL.skip rfl rfl rfl rfl ?_
      refine RL.skip rfl rfl rfl rfl ?_
      refine RL.skip rfl rfl rfl rfl ?_
      refine RL.skip rfl rfl rfl rfl ?_
      refine RL.skip rfl rfl rfl rfl ?_
      refine RL.skip rfl rfl rfl rfl ?_
      refine RL.skip rfl rfl rfl rfl ?_
      refine RL.skip rfl rfl rfl rfl ?_
      refine RL.skip rfl rfl rfl rfl ?_
      refine RL.pickF rfl rfl rfl rfl rfl ?_
      refine RL.nil ?_
      refine NQ.seq ?_
      refine CW.only (.cons (k := 0) rfl (.cons (k := 1) rfl (.cons (k := 2) rfl (.cons (k := 3) rfl (.cons (k := 4) rfl (.cons (k := 10) rfl (.cons (k := 15) rfl (.cons (k := 36) rfl .nil)))))))) ?_
      refine CW.condF rfl rfl ?_
      refine CW.skip ?_
      refine NQ.block ?_
      refine NQ.round (g := (c, left)) (c, left.eraseIdx q) (hw.keep hp (by simp_all [delB])) (by show (left.eraseIdx q).length < left.length; rw [List.length_eraseIdx_of_lt (List.getElem?_eq_some_iff.1 hp).1]; have := (List.getElem?_eq_some_iff.1 hp).1; omega) (.cons rfl (.cons rfl (.cons rfl (.cons rfl (.cons rfl (.cons rfl .nil)))))) (fun w h => (h.rea (H' := [mapCt m2 it goodP c (left.eraseIdx q) (pl ps pe, pv), ringI r m1 m2, oneI o]) (fun _ h => h) (by repeat (first | exact Rea.nil | (apply Rea.cons; (solve | (repeat (first | exact Del.here | apply Del.there))))))).uncur)
end Go.Proofs.YtkkfdoippibfkaaGreat

namespace Go.Proofs.YtkkfdoippibfkaaGreat
open Go.PK

theorem CW.tellAll {P : Program} {Q : Exit → Act → World → Prop} {N : Nat} {E : Env} {w0 : World} {S : List Nat} {I H l : List It} {cc : Code} (hm : allI l ∈ I)
    (h : ∀ J, (∀ x ∈ l, x ∈ J) → (∀ x ∈ I, x ∈ J) → CW P cc Q N E w0 S J H) : CW P cc Q N E w0 S I H := fun a w ha hw =>
  h (l ++ I) (fun _ h => List.mem_append_left _ h) (fun _ h => List.mem_append_right _ h) a w ha
    ⟨hw.k, ⟨fun x hx => (List.mem_append.1 hx).elim (hw.s.i _ hm x) (hw.s.i x), hw.s.h, hw.s.nd, fun b hb => by
      rw [bss_append] at hb
      rcases List.mem_append.1 hb with hb | hb
      · exact hw.s.dj b (mem_bss.2 ⟨_, hm, hb⟩)
      · exact hw.s.dj b hb⟩, hw.own⟩
/-- A ring of keys. -/
abbrev RingL (r m1 m2 : Nat) (T : List One) (c : List (Value × Value)) : List It := ringI r m1 m2 :: mapI m1 goodI (c1 T) :: mapI m2 goodP c :: T.map oneI
structure TOk (T : List One) : Prop where
  k : ∀ o ∈ T, o.k.length = 32
  e1 : ∀ o ∈ T, 1 ≤ o.e
  e2 : ∀ o ∈ T, o.e < 4294967296
  s : ∀ o ∈ T, o.s < 8
  g : ∀ o ∈ T, -1 ≤ o.g
  nd : (T.map (·.s)).Nodup
/-- A source's key of an epoch, where it counts. -/
def hasE (o : One) (e : Int) : Bool := e == (o.e : Int) || (e + 1 == (o.e : Int) && !(o.g == -1))
def keyV (T : List One) (s e : Int) : Option Value := match atO T s with
  | none => none
  | some o => if hasE o e = true then some (keyE o.k e.toNat) else none
def KOk (T : List One) (c : List (Value × Value)) : Prop := ∀ s e, lookV (pl s e) c = keyV T s e
theorem atO_mem {T : List One} {s : Int} {o : One} (h : atO T s = some o) : o ∈ T ∧ (o.s : Int) = s := ⟨List.mem_of_find?_eq_some h, by simpa using List.find?_some h⟩
def epochM (T : List One) (s : Int) : Nat := if mayB s = true then match atO T s with
  | none => 0
  | some o => o.e else 0
theorem epoch_any (r m1 m2 : Nat) (T : List One) (c : List (Value × Value)) (s : Int) (hT : TOk T) : Spc Tryz.prog 36 #[.pointer (some ⟨r, 0, none⟩), .int .i64 s] [allI (RingL r m1 m2 T c)] [] (Is (.int .u32 (epochM T s : Int))) := by
  refine Spc.enter Tryz.func36 rfl rfl rfl (fun w0 hw0 => ?_)
  refine CW.seq ?_
  refine CW.tellAll (List.Mem.head _) (fun J h1 _ => ?_)
  have mr : ringI r m1 m2 ∈ J := h1 _ (by simp)
  have m1' : mapI m1 goodI (c1 T) ∈ J := h1 _ (by simp)
  have mo : ∀ o ∈ T, oneI o ∈ J := fun o ho => h1 _ (by simp; exact .inr (.inr (.inr ⟨o, ho, rfl⟩)))
  refine CW.region (ef := []) (bk := []) ?_
  refine RL.assign rfl rfl rfl rfl ?_
  refine RL.nil ?_
  refine NQ.seq ?_
  refine CW.seq ?_
  refine CW.region (ef := []) (bk := []) ?_
  refine RL.move rfl rfl rfl rfl ?_
  refine RL.move rfl rfl rfl rfl ?_
  refine RL.callv (find_any r m1 m2 T s true) Tryz.call63 rfl rfl rfl rfl (.inI mr (.inI m1' .nil)) ?_
  refine RL.move rfl rfl rfl rfl ?_
  refine RL.extract rfl rfl rfl rfl rfl ?_
  refine RL.extract rfl rfl rfl rfl rfl ?_
  refine RL.assign rfl rfl rfl rfl ?_
  refine RL.assign rfl rfl rfl rfl ?_
  refine RL.nil ?_
  refine NQ.seq ?_
  refine CW.only (.cons (k := 5) rfl (.cons (k := 6) rfl .nil)) ?_
  refine CW.seq ?_
  refine CW.seq ?_
  by_cases hm : mayB s = true
  · cases ho : atO T s with
    | none =>
      rw [show findV T s true = (.pointer none, 5) by simp [findV, hm, ho]]
      refine CW.region (ef := []) (bk := []) ?_
      refine RL.move rfl rfl rfl rfl ?_
      refine RL.bin rfl rfl rfl rfl rfl rfl ?_
      refine RL.nil ?_
      refine NQ.seq ?_
      refine CW.condT rfl ((by simp)) ?_
      refine CW.seq ?_
      refine CW.region (ef := []) (bk := []) ?_
      refine RL.assign rfl rfl rfl rfl ?_
      refine RL.nil ?_
      refine NQ.seq ?_
      refine CW.ret ?_
      refine RQ.seq ?_
      exact RQ.post (res1 rfl rfl) (Split.none _) ⟨by rw [epochM, if_pos hm, ho]; rfl, rfl, rfl⟩
    | some o =>
      obtain ⟨hoT, -⟩ := atO_mem ho
      have g1 : RdI J ⟨o.b, 0 + 32, none⟩ (.int .u32 (o.e : Int)) := ⟨fun _ => Rd.getI (mo o hoT) (one_e (hT.k o hoT))⟩
      rw [show findV T s true = (.pointer (some ⟨o.b, 0, none⟩), 0) by simp [findV, hm, ho]]
      refine CW.region (ef := []) (bk := []) ?_
      refine RL.move rfl rfl rfl rfl ?_
      refine RL.bin rfl rfl rfl rfl rfl rfl ?_
      refine RL.nil ?_
      refine NQ.seq ?_
      refine CW.condF rfl ((by simp)) ?_
      refine CW.skip ?_
      refine NQ.seq ?_
      refine CW.seq ?_
      refine CW.region (ef := []) (bk := []) ?_
      refine RL.move rfl rfl rfl rfl ?_
      refine RL.nilCheck rfl rfl rfl rfl ?_
      refine RL.fieldAddr fa_137_1 rfl rfl rfl rfl ?_
      refine RL.loadq Tryz.isAgg32 rfl rfl rfl rfl ?_
      refine RL.assign rfl rfl rfl rfl ?_
      refine RL.nil ?_
      refine NQ.seq ?_
      refine CW.only (.cons (k := 4) rfl .nil) ?_
      refine CW.ret ?_
      exact RQ.post (res1 rfl rfl) (Split.none _) ⟨by rw [epochM, if_pos hm, ho], rfl, rfl⟩
  ·
    rw [show findV T s true = (.pointer none, 2) by simp [findV, hm]]
    refine CW.region (ef := []) (bk := []) ?_
    refine RL.move rfl rfl rfl rfl ?_
    refine RL.bin rfl rfl rfl rfl rfl rfl ?_
    refine RL.nil ?_
    refine NQ.seq ?_
    refine CW.condT rfl ((by simp)) ?_
    refine CW.seq ?_
    refine CW.region (ef := []) (bk := []) ?_
    refine RL.assign rfl rfl rfl rfl ?_
    refine RL.nil ?_
    refine NQ.seq ?_
    refine CW.ret ?_
    refine RQ.seq ?_
    exact RQ.post (res1 rfl rfl) (Split.none _) ⟨by rw [epochM, if_neg hm]; rfl, rfl, rfl⟩
end Go.Proofs.YtkkfdoippibfkaaGreat

namespace Go.Proofs.YtkkfdoippibfkaaGreat
open Go.PK

def goesB (o : One) (e : Nat) (t : Int) : Bool := hasE o (e : Int) && (decide ((e : Int) = (o.e : Int)) || decide (t ≤ o.g))
/-- A key, and whether it is one. -/
def keyM (T : List One) (s : Int) (e : Nat) (t : Int) : List B8 × Int := if tickB t = true ∧ mayB s = true then match atO T s with
  | none => (zeros, 5)
  | some o => if goesB o e t = true then (deriveK o.k epochL e, 0) else (zeros, 160) else (zeros, 2)
theorem derive_len (k lb : List B8) (n : Nat) : (deriveK k lb n).length = 32 := macCode_len _ _
theorem keyM_len (T : List One) (s : Int) (e : Nat) (t : Int) : (keyM T s e t).1.length = 32 := by
  unfold keyM
  split
  · split
    · rfl
    · split
      · exact derive_len _ _ _
      · rfl
  · rfl
theorem key_any (r m1 m2 : Nat) (T : List One) (c : List (Value × Value)) (s : Int) (e : Nat) (t : Int) (hT : TOk T) (hc : KOk T c) (he : e < 4294967296) : Spc Tryz.prog 89 #[.pointer (some ⟨r, 0, none⟩), .int .i64 s, .int .u32 (e : Int), .int .i64 t] [allI (RingL r m1 m2 T c)] []
    (Is (.tuple #[.agg (bytes (keyM T s e t).1).toArray, .int .i64 (keyM T s e t).2])) := by
  refine Spc.enter Tryz.func89 rfl rfl rfl (fun w0 hw0 => ?_)
  refine CW.seq ?_
  refine CW.region (ef := [0]) (bk := []) ?_
  refine RL.alloc Tryz.zeroValue56 rfl rfl rfl rfl rfl ?_
  intro b1
  refine RL.assign rfl rfl rfl rfl ?_
  refine RL.nil ?_
  refine NQ.seq ?_
  refine CW.seq ?_
  refine CW.tellAll (List.Mem.head _) (fun J h1 _ => ?_)
  have mr : ringI r m1 m2 ∈ J := h1 _ (by simp)
  have m1' : mapI m1 goodI (c1 T) ∈ J := h1 _ (by simp)
  have m2' : mapI m2 goodP c ∈ J := h1 _ (by simp)
  have mo : ∀ o ∈ T, oneI o ∈ J := fun o ho => h1 _ (by simp; exact .inr (.inr (.inr ⟨o, ho, rfl⟩)))
  refine CW.region (ef := []) (bk := []) ?_
  refine RL.move rfl rfl rfl rfl ?_
  refine RL.move rfl rfl rfl rfl ?_
  refine RL.move rfl rfl rfl rfl ?_
  refine RL.callvq (ktick_any t) Tryz.call78 rfl rfl rfl rfl ?_
  refine RL.callv (find_any r m1 m2 T s (tickB t)) Tryz.call63 rfl rfl rfl rfl (.inI mr (.inI m1' .nil)) ?_
  refine RL.move rfl rfl rfl rfl ?_
  refine RL.extract rfl rfl rfl rfl rfl ?_
  refine RL.extract rfl rfl rfl rfl rfl ?_
  refine RL.assign rfl rfl rfl rfl ?_
  refine RL.assign rfl rfl rfl rfl ?_
  refine RL.nil ?_
  refine NQ.seq ?_
  refine CW.only (.cons (k := 0) rfl (.cons (k := 1) rfl (.cons (k := 2) rfl (.cons (k := 3) rfl (.cons (k := 8) rfl (.cons (k := 10) rfl (.cons (k := 11) rfl .nil))))))) ?_
  refine CW.seq ?_
  refine CW.seq ?_
  by_cases hm : tickB t = true ∧ mayB s = true
  · cases ho : atO T s with
    | none =>
      rw [show findV T s (tickB t) = (.pointer none, 5) by simp [findV, hm, ho]]
      refine CW.region (ef := []) (bk := []) ?_
      refine RL.move rfl rfl rfl rfl ?_
      refine RL.bin rfl rfl rfl rfl rfl rfl ?_
      refine RL.nil ?_
      refine NQ.seq ?_
      refine CW.condT rfl ((by simp)) ?_
      refine CW.seq ?_
      refine CW.region (ef := [2]) (bk := [2]) ?_
      refine RL.buildA _ Tryz.zeroValue56 Tryz.runUnderlying56 Tryz.sizeOf5 rfl rfl rfl rfl rfl ?_
      refine RL.move rfl rfl rfl rfl ?_
      refine RL.storeW Tryz.sizeOf56 rfl rfl rfl rfl rfl rfl rfl rfl (by repeat (first | exact Upd.here | apply Upd.there)) rfl rfl ?_
      refine RL.assign rfl rfl rfl rfl ?_
      refine RL.nil ?_
      refine NQ.seq ?_
      refine CW.ret ?_
      refine RQ.seq ?_
      exact RQ.post (resWT rfl rfl rfl Tryz.isAgg56 Tryz.sizeOf56 (by repeat (first | exact List.Mem.head _ | apply List.Mem.tail)) rfl) (Split.none _) ⟨by rw [keyM, if_pos hm, ho]; rfl, rfl, rfl⟩
    | some o =>
      obtain ⟨hoT, -⟩ := atO_mem ho
      have q1 : RdI J ⟨r, 0 + 1, none⟩ (.map (some m2)) := ⟨fun _ => Rd.getI mr rfl⟩
      have g1 : RdI J ⟨o.b, 0 + 32, none⟩ (.int .u32 (o.e : Int)) := ⟨fun _ => Rd.getI (mo o hoT) (one_e (hT.k o hoT))⟩
      have g2 : RdI J ⟨o.b, 0 + 33, none⟩ (.int .i64 o.g) := ⟨fun _ => Rd.getI (mo o hoT) (one_g (hT.k o hoT))⟩
      rw [show findV T s (tickB t) = (.pointer (some ⟨o.b, 0, none⟩), 0) by simp [findV, hm, ho]]
      refine CW.region (ef := []) (bk := []) ?_
      refine RL.move rfl rfl rfl rfl ?_
      refine RL.bin rfl rfl rfl rfl rfl rfl ?_
      refine RL.nil ?_
      refine NQ.seq ?_
      refine CW.condF rfl ((by simp)) ?_
      refine CW.skip ?_
      refine NQ.seq ?_
      refine CW.seq ?_
      refine CW.region (ef := [11, 12]) (bk := [12]) ?_
      refine RL.move rfl rfl rfl rfl ?_
      refine RL.nilCheck rfl rfl rfl rfl ?_
      refine RL.fieldAddr fa_126_1 rfl rfl rfl rfl ?_
      refine RL.loadq Tryz.isAgg124 rfl rfl rfl rfl ?_
      refine RL.move rfl rfl rfl rfl ?_
      refine RL.move rfl rfl rfl rfl ?_
      refine RL.buildS [_, _] Tryz.zeroValue160 pl_160 rfl rfl rfl rfl rfl ?_
      refine RL.lookupOk keyP Tryz.runUnderlying124 Tryz.zeroValue56 rfl rfl rfl rfl rfl ⟨s, (e : Int), rfl⟩ (MapAt.told m2') ?_
      have hl : lookV (.agg #[.int .i64 s, .int .u32 (e : Int)]) c = if hasE o (e : Int) = true then some (keyE o.k e) else none := by
        rw [show lookV (.agg #[.int .i64 s, .int .u32 (e : Int)]) c = keyV T s e from hc s e, keyV, ho]; rfl
      rw [hl]
      by_cases hE : hasE o (e : Int) = true
      · rw [if_pos hE]
        refine RL.move rfl rfl rfl rfl ?_
        refine RL.extract rfl rfl rfl rfl rfl ?_
        refine RL.extract rfl rfl rfl rfl rfl ?_
        refine RL.alloc Tryz.zeroValue56 rfl rfl rfl rfl rfl ?_
        intro b2
        refine RL.storeW Tryz.sizeOf56 rfl rfl rfl rfl rfl rfl rfl (ones_map one8 _) (by repeat (first | exact Upd.here | apply Upd.there)) (by first | rfl | assumption | (simp only [List.length_map]; assumption) | (simp only [List.length_map, List.length_replicate, derive_len]; done) | (simp; done)) rfl ?_
        refine RL.assign rfl rfl rfl rfl ?_
        refine RL.nil ?_
        refine NQ.seq ?_
        refine CW.only (.cons (k := 2) rfl (.cons (k := 3) rfl (.cons (k := 8) rfl (.cons (k := 10) rfl (.cons (k := 11) rfl (.cons (k := 12) rfl (.cons (k := 13) rfl .nil))))))) ?_
        refine CW.seq ?_
        refine CW.seq ?_
        refine CW.region (ef := []) (bk := []) ?_
        refine RL.move rfl rfl rfl rfl ?_
        refine RL.not rfl rfl rfl rfl ?_
        refine RL.move rfl rfl rfl rfl ?_
        apply RL.orB (d := 39) (dp := 54) (l' := (Sq.of [])) rfl (.cons (k := 8) rfl (.cons (k := 11) rfl (.cons (k := 12) rfl .nil)))
        ·
          intro hb3 K3
          refine RL.move rfl rfl rfl rfl ?_
          refine RL.move rfl rfl rfl rfl ?_
          refine RL.nilCheck rfl rfl rfl rfl ?_
          refine RL.fieldAddr fa_137_1 rfl rfl rfl rfl ?_
          refine RL.loadq Tryz.isAgg32 rfl rfl rfl rfl ?_
          refine RL.bin rfl rfl rfl rfl rfl rfl ?_
          refine RL.move rfl rfl rfl rfl ?_
          apply RL.andB (d := 46) (dp := 53) (l' := (Sq.of [17])) rfl (.cons (k := 8) rfl (.cons (k := 11) rfl (.cons (k := 12) rfl (.cons (k := 39) rfl .nil))))
          ·
            intro hb10 K10
            refine RL.move rfl rfl rfl rfl ?_
            refine RL.move rfl rfl rfl rfl ?_
            refine RL.nilCheck rfl rfl rfl rfl ?_
            refine RL.fieldAddr fa_137_2 rfl rfl rfl rfl ?_
            refine RL.loadq Tryz.isAgg3 rfl rfl rfl rfl ?_
            refine RL.bin rfl rfl rfl rfl rfl rfl ?_
            refine RL.pickT rfl rfl rfl rfl rfl ?_
            exact K10 _ (.cons rfl (.cons (k := 8) rfl (.cons (k := 11) rfl (.cons (k := 12) rfl (.cons (k := 39) rfl .nil)))))
          ·
            intro hb10 K10
            refine RL.skip rfl rfl rfl rfl ?_
            refine RL.skip rfl rfl rfl rfl ?_
            refine RL.skip rfl rfl rfl rfl ?_
            refine RL.skip rfl rfl rfl rfl ?_
            refine RL.skip rfl rfl rfl rfl ?_
            refine RL.skip rfl rfl rfl rfl ?_
            refine RL.pickF rfl rfl rfl rfl rfl ?_
            exact K10 _ (.cons rfl (.cons (k := 8) rfl (.cons (k := 11) rfl (.cons (k := 12) rfl (.cons (k := 39) rfl .nil)))))
          refine RL.pickF rfl rfl rfl rfl rfl ?_
          exact K3 _ (.cons rfl (.cons (k := 8) rfl (.cons (k := 11) rfl (.cons (k := 12) rfl .nil))))
        ·
          intro hb3 K3
          refine RL.skip rfl rfl rfl rfl ?_
          refine RL.skip rfl rfl rfl rfl ?_
          refine RL.skip rfl rfl rfl rfl ?_
          refine RL.skip rfl rfl rfl rfl ?_
          refine RL.skip rfl rfl rfl rfl ?_
          refine RL.skip rfl rfl rfl rfl ?_
          refine RL.skip rfl rfl rfl rfl ?_
          refine RL.skip rfl rfl rfl rfl ?_
          refine RL.skip rfl rfl rfl rfl ?_
          refine RL.skip rfl rfl rfl rfl ?_
          refine RL.skip rfl rfl rfl rfl ?_
          refine RL.skip rfl rfl rfl rfl ?_
          refine RL.skip rfl rfl rfl rfl ?_
          refine RL.skip rfl rfl rfl rfl ?_
          refine RL.pickT rfl rfl rfl rfl rfl ?_
          exact K3 _ (.cons rfl (.cons (k := 8) rfl (.cons (k := 11) rfl (.cons (k := 12) rfl .nil))))
        refine RL.nil ?_
        refine NQ.seq ?_
        refine CW.cond rfl (fun hg => ?_) (fun hg => ?_)
        ·
          refine CW.seq ?_
          refine CW.region (ef := [1]) (bk := [1]) ?_
          refine RL.buildA _ Tryz.zeroValue56 Tryz.runUnderlying56 Tryz.sizeOf5 rfl rfl rfl rfl rfl ?_
          refine RL.storeW Tryz.sizeOf56 rfl rfl rfl rfl rfl rfl rfl rfl (by repeat (first | exact Upd.here | apply Upd.there)) rfl rfl ?_
          refine RL.assign rfl rfl rfl rfl ?_
          refine RL.nil ?_
          refine NQ.seq ?_
          refine CW.ret ?_
          refine RQ.seq ?_
          exact RQ.post (resWT rfl rfl rfl Tryz.isAgg56 Tryz.sizeOf56 (by repeat (first | exact List.Mem.head _ | apply List.Mem.tail)) rfl) (Split.none _) ⟨by rw [keyM, if_pos hm, ho]; dsimp only; rw [if_neg (by simp [goesB, hE]; simp at hg; omega)]; rfl, rfl, rfl⟩
        ·
          refine CW.skip ?_
          refine NQ.seq ?_
          refine CW.seq ?_
          refine CW.region (ef := [2]) (bk := [2]) ?_
          refine RL.loadW Tryz.isAgg56 Tryz.sizeOf56 rfl rfl rfl rfl (by repeat (first | exact List.Mem.head _ | apply List.Mem.tail)) (by first | rfl | assumption | (simp only [List.length_map]; assumption) | (simp only [List.length_map, List.length_replicate, derive_len]; done) | (simp; done)) ?_
          refine RL.move rfl rfl rfl rfl ?_
          refine RL.storeW Tryz.sizeOf56 rfl rfl rfl rfl rfl rfl rfl (ones_map one8 _) (by repeat (first | exact Upd.here | apply Upd.there)) (by first | rfl | assumption | (simp only [List.length_map]; assumption) | (simp only [List.length_map, List.length_replicate, derive_len]; done) | (simp; done)) rfl ?_
          refine RL.assign rfl rfl rfl rfl ?_
          refine RL.nil ?_
          refine NQ.seq ?_
          refine CW.ret ?_
          exact RQ.post (resWT rfl rfl rfl Tryz.isAgg56 Tryz.sizeOf56 (by repeat (first | exact List.Mem.head _ | apply List.Mem.tail)) (by first | rfl | assumption | (simp only [List.length_map]; assumption) | (simp only [List.length_map, List.length_replicate, derive_len]; done) | (simp; done))) (Split.none _) ⟨by rw [keyM, if_pos hm, ho]; dsimp only; rw [if_pos (by simp [goesB, hE]; simp at hg; omega)]; rfl, rfl, rfl⟩
      ·
        rw [if_neg hE]
        refine RL.move rfl rfl rfl rfl ?_
        refine RL.extract rfl rfl rfl rfl rfl ?_
        refine RL.extract rfl rfl rfl rfl rfl ?_
        refine RL.alloc Tryz.zeroValue56 rfl rfl rfl rfl rfl ?_
        intro b2
        refine RL.storeW Tryz.sizeOf56 rfl rfl rfl rfl rfl rfl rfl rfl (by repeat (first | exact Upd.here | apply Upd.there)) rfl rfl ?_
        refine RL.assign rfl rfl rfl rfl ?_
        refine RL.nil ?_
        refine NQ.seq ?_
        refine CW.only (.cons (k := 2) rfl (.cons (k := 3) rfl (.cons (k := 8) rfl (.cons (k := 10) rfl (.cons (k := 11) rfl (.cons (k := 12) rfl (.cons (k := 13) rfl .nil))))))) ?_
        refine CW.seq ?_
        refine CW.seq ?_
        refine CW.region (ef := []) (bk := []) ?_
        refine RL.move rfl rfl rfl rfl ?_
        refine RL.not rfl rfl rfl rfl ?_
        refine RL.move rfl rfl rfl rfl ?_
        apply RL.orB (d := 39) (dp := 54) (l' := (Sq.of [])) rfl (.cons (k := 8) rfl (.cons (k := 11) rfl (.cons (k := 12) rfl .nil)))
        ·
          intro hb3 K3
          refine RL.move rfl rfl rfl rfl ?_
          refine RL.move rfl rfl rfl rfl ?_
          refine RL.nilCheck rfl rfl rfl rfl ?_
          refine RL.fieldAddr fa_137_1 rfl rfl rfl rfl ?_
          refine RL.loadq Tryz.isAgg32 rfl rfl rfl rfl ?_
          refine RL.bin rfl rfl rfl rfl rfl rfl ?_
          refine RL.move rfl rfl rfl rfl ?_
          apply RL.andB (d := 46) (dp := 53) (l' := (Sq.of [17])) rfl (.cons (k := 8) rfl (.cons (k := 11) rfl (.cons (k := 12) rfl (.cons (k := 39) rfl .nil))))
          ·
            intro hb10 K10
            refine RL.move rfl rfl rfl rfl ?_
            refine RL.move rfl rfl rfl rfl ?_
            refine RL.nilCheck rfl rfl rfl rfl ?_
            refine RL.fieldAddr fa_137_2 rfl rfl rfl rfl ?_
            refine RL.loadq Tryz.isAgg3 rfl rfl rfl rfl ?_
            refine RL.bin rfl rfl rfl rfl rfl rfl ?_
            refine RL.pickT rfl rfl rfl rfl rfl ?_
            exact K10 _ (.cons rfl (.cons (k := 8) rfl (.cons (k := 11) rfl (.cons (k := 12) rfl (.cons (k := 39) rfl .nil)))))
          ·
            intro hb10 K10
            refine RL.skip rfl rfl rfl rfl ?_
            refine RL.skip rfl rfl rfl rfl ?_
            refine RL.skip rfl rfl rfl rfl ?_
            refine RL.skip rfl rfl rfl rfl ?_
            refine RL.skip rfl rfl rfl rfl ?_
            refine RL.skip rfl rfl rfl rfl ?_
            refine RL.pickF rfl rfl rfl rfl rfl ?_
            exact K10 _ (.cons rfl (.cons (k := 8) rfl (.cons (k := 11) rfl (.cons (k := 12) rfl (.cons (k := 39) rfl .nil)))))
          refine RL.pickF rfl rfl rfl rfl rfl ?_
          exact K3 _ (.cons rfl (.cons (k := 8) rfl (.cons (k := 11) rfl (.cons (k := 12) rfl .nil))))
        ·
          intro hb3 K3
          refine RL.skip rfl rfl rfl rfl ?_
          refine RL.skip rfl rfl rfl rfl ?_
          refine RL.skip rfl rfl rfl rfl ?_
          refine RL.skip rfl rfl rfl rfl ?_
          refine RL.skip rfl rfl rfl rfl ?_
          refine RL.skip rfl rfl rfl rfl ?_
          refine RL.skip rfl rfl rfl rfl ?_
          refine RL.skip rfl rfl rfl rfl ?_
          refine RL.skip rfl rfl rfl rfl ?_
          refine RL.skip rfl rfl rfl rfl ?_
          refine RL.skip rfl rfl rfl rfl ?_
          refine RL.skip rfl rfl rfl rfl ?_
          refine RL.skip rfl rfl rfl rfl ?_
          refine RL.skip rfl rfl rfl rfl ?_
          refine RL.pickT rfl rfl rfl rfl rfl ?_
          exact K3 _ (.cons rfl (.cons (k := 8) rfl (.cons (k := 11) rfl (.cons (k := 12) rfl .nil))))
        refine RL.nil ?_
        refine NQ.seq ?_
        refine CW.condT rfl ((by simp)) ?_
        refine CW.seq ?_
        refine CW.region (ef := [1]) (bk := [1]) ?_
        refine RL.buildA _ Tryz.zeroValue56 Tryz.runUnderlying56 Tryz.sizeOf5 rfl rfl rfl rfl rfl ?_
        refine RL.storeW Tryz.sizeOf56 rfl rfl rfl rfl rfl rfl rfl rfl (by repeat (first | exact Upd.here | apply Upd.there)) rfl rfl ?_
        refine RL.assign rfl rfl rfl rfl ?_
        refine RL.nil ?_
        refine NQ.seq ?_
        refine CW.ret ?_
        refine RQ.seq ?_
        exact RQ.post (resWT rfl rfl rfl Tryz.isAgg56 Tryz.sizeOf56 (by repeat (first | exact List.Mem.head _ | apply List.Mem.tail)) rfl) (Split.none _) ⟨by rw [keyM, if_pos hm, ho]; dsimp only; rw [if_neg (by simp [goesB, hE])]; rfl, rfl, rfl⟩
  ·
    rw [show findV T s (tickB t) = (.pointer none, 2) by simp [findV, hm]]
    refine CW.region (ef := []) (bk := []) ?_
    refine RL.move rfl rfl rfl rfl ?_
    refine RL.bin rfl rfl rfl rfl rfl rfl ?_
    refine RL.nil ?_
    refine NQ.seq ?_
    refine CW.condT rfl ((by simp)) ?_
    refine CW.seq ?_
    refine CW.region (ef := [2]) (bk := [2]) ?_
    refine RL.buildA _ Tryz.zeroValue56 Tryz.runUnderlying56 Tryz.sizeOf5 rfl rfl rfl rfl rfl ?_
    refine RL.move rfl rfl rfl rfl ?_
    refine RL.storeW Tryz.sizeOf56 rfl rfl rfl rfl rfl rfl rfl rfl (by repeat (first | exact Upd.here | apply Upd.there)) rfl rfl ?_
    refine RL.assign rfl rfl rfl rfl ?_
    refine RL.nil ?_
    refine NQ.seq ?_
    refine CW.ret ?_
    refine RQ.seq ?_
    exact RQ.post (resWT rfl rfl rfl Tryz.isAgg56 Tryz.sizeOf56 (by repeat (first | exact List.Mem.head _ | apply List.Mem.tail)) rfl) (Split.none _) ⟨by rw [keyM, if_neg hm]; rfl, rfl, rfl⟩
end Go.Proofs.YtkkfdoippibfkaaGreat

namespace Go.Proofs.YtkkfdoippibfkaaGreat
open Go.PK

theorem atO_mid {A B : List One} {o : One} (h : ∀ x ∈ A ++ B, x.s ≠ o.s) (s : Int) : atO (A ++ o :: B) s = if s = (o.s : Int) then some o else atO (A ++ B) s := by
  have hA : ∀ x ∈ A, x.s ≠ o.s := fun x hx => h x (by simp [hx])
  clear h
  induction A with
  | nil =>
    by_cases hs : s = (o.s : Int)
    · subst hs; simp [atO]
    · simp [atO, hs, Ne.symm hs]
  | cons a A ih =>
    have ha := hA a (by simp)
    have ih := ih (fun x hx => hA x (by simp [hx]))
    simp only [atO] at ih ⊢
    by_cases h1 : (a.s : Int) = s
    · have : ¬ s = (o.s : Int) := by omega
      simp [h1, this]
    · simp [h1, ih]
theorem keyV_mid {A B : List One} {o : One} (h : ∀ x ∈ A ++ B, x.s ≠ o.s) (s e : Int) : keyV (A ++ o :: B) s e = if s = (o.s : Int) then (if hasE o e = true then some (keyE o.k e.toNat) else none) else keyV (A ++ B) s e := by
  rw [keyV, atO_mid h, keyV]
  by_cases hs : s = (o.s : Int)
  · rw [if_pos hs, if_pos hs]
  · rw [if_neg hs, if_neg hs]
theorem KOk.enter {A B : List One} {o : One} {e' : Nat} {g' : Int} {c c' : List (Value × Value)} (hA : ∀ x ∈ A ++ B, x.s ≠ o.s) (hc : ∀ s e, s ≠ (o.s : Int) → lookV (pl s e) c = keyV (A ++ B) s e)
    (hg : g' = -1 ∨ (e' = o.e + 1 ∧ g' ≠ -1 ∧ lookV (pl (o.s : Int) (o.e : Int)) c = some (keyE o.k o.e)))
    (h : ∀ s e, lookV (pl s e) c' = if s = (o.s : Int) ∧ e = (e' : Int) then some (keyE o.k e') else if delB o g' s e = true then none else lookV (pl s e) c) : KOk (A ++ { o with e := e', g := g' } :: B) c' := by
  intro s e
  rw [h, keyV_mid (o := { o with e := e', g := g' }) hA]
  by_cases hs : s = (o.s : Int)
  · subst hs
    rw [if_pos (show (o.s : Int) = (({ o with e := e', g := g' } : One).s : Int) from rfl)]
    by_cases he : e = (e' : Int)
    · subst he
      rw [if_pos ⟨rfl, rfl⟩, if_pos (by simp [hasE])]; rfl
    · rw [if_neg (fun h => he h.2)]
      rcases hg with rfl | ⟨rfl, hg, hl⟩
      · rw [if_pos (by simp [delB]), if_neg (by simp [hasE, he])]
      · by_cases h2 : e = (o.e : Int)
        · subst h2
          rw [if_neg (by simp [delB, hg]), hl, if_pos (by simp [hasE, hg])]; rfl
        · rw [if_pos (by simp [delB, h2]), if_neg (by simp [hasE, he]; omega)]
  · rw [if_neg (fun h => hs h.1), if_neg (by simp [delB, hs]), if_neg hs]
    exact hc s e hs
/-- A source that enters an epoch. -/
def setT (T : List One) (s : Int) (e' : Nat) (g' : Int) : List One := T.map fun o => if (o.s : Int) = s then { o with e := e', g := g' } else o
theorem setT_mid {A B : List One} {o : One} {s : Int} (hs : (o.s : Int) = s) (h : ∀ x ∈ A ++ B, x.s ≠ o.s) (e' : Nat) (g' : Int) : setT (A ++ o :: B) s e' g' = A ++ { o with e := e', g := g' } :: B := by
  have hid : ∀ l : List One, (∀ x ∈ l, x.s ≠ o.s) → l.map (fun o => if (o.s : Int) = s then { o with e := e', g := g' } else o) = l := fun l hl => by
    conv => rhs; rw [← List.map_id l]
    exact List.map_congr_left (fun x hx => by rw [if_neg (by have := hl x hx; omega)]; rfl)
  rw [setT, List.map_append, List.map_cons, hid A (fun x hx => h x (by simp [hx])), hid B (fun x hx => h x (by simp [hx])), if_pos hs]
theorem c1_set (T : List One) (s : Int) (e' : Nat) (g' : Int) : c1 (setT T s e' g') = c1 T := by
  rw [c1, c1, setT, List.map_map]
  exact List.map_congr_left (fun x _ => by
    by_cases h : (x.s : Int) = s <;> simp [h])
theorem TOk.set {T : List One} (h : TOk T) (s : Int) {e' : Nat} {g' : Int} (h1 : 1 ≤ e') (h2 : e' < 4294967296) (h3 : -1 ≤ g') : TOk (setT T s e' g') := by
  have hm : ∀ {p : One → Prop}, (∀ o ∈ T, p o) → (∀ o ∈ T, p { o with e := e', g := g' }) → ∀ o ∈ setT T s e' g', p o := by
    intro p k1 k2 o ho
    obtain ⟨x, hx, rfl⟩ := List.mem_map.1 ho
    split
    · exact k2 x hx
    · exact k1 x hx
  refine ⟨hm h.k h.k, hm h.e1 (fun _ _ => h1), hm h.e2 (fun _ _ => h2), hm h.s h.s, hm h.g (fun _ _ => h3), ?_⟩
  rw [setT, List.map_map]
  have : T.map ((·.s) ∘ fun o => if (o.s : Int) = s then { o with e := e', g := g' } else o) = T.map (·.s) := List.map_congr_left (fun x _ => by
    by_cases h : (x.s : Int) = s <;> simp [h])
  rw [this]; exact h.nd
/-- A source's place among the sources. -/
theorem atO_split {T : List One} (h : TOk T) {s : Int} {o : One} (ho : atO T s = some o) : ∃ A B, T = A ++ o :: B ∧ (∀ x ∈ A ++ B, x.s ≠ o.s) := by
  obtain ⟨hm, -⟩ := atO_mem ho
  obtain ⟨A, B, rfl⟩ := List.append_of_mem hm
  refine ⟨A, B, rfl, fun x hx e => ?_⟩
  have hnd := h.nd
  rw [List.map_append, List.map_cons, List.nodup_append, List.nodup_cons] at hnd
  obtain ⟨h1, ⟨h2, h3⟩, h4⟩ := hnd
  rcases List.mem_append.1 hx with hx | hx
  · exact h4 x.s (List.mem_map.2 ⟨x, hx, rfl⟩) o.s (by simp) e
  · exact h2 (List.mem_map.2 ⟨x, hx, e⟩)
theorem ring_perm (r m1 m2 : Nat) (A B : List One) (o : One) (c : List (Value × Value)) (k : List (Value × Value)) :
    (ringI r m1 m2 :: mapI m1 goodI k :: mapI m2 goodP c :: (A ++ o :: B).map oneI).Perm (mapI m2 goodP c :: ringI r m1 m2 :: oneI o :: mapI m1 goodI k :: (A ++ B).map oneI) := by
  have h1 : ((A ++ o :: B).map oneI).Perm (oneI o :: (A ++ B).map oneI) := by
    rw [List.map_append, List.map_cons, List.map_append]; exact List.perm_middle
  have h2 := (((h1.cons (mapI m2 goodP c)).cons (mapI m1 goodI k)).cons (ringI r m1 m2))
  refine h2.trans ?_
  generalize (A ++ B).map oneI = R
  generalize ringI r m1 m2 = a
  generalize mapI m1 goodI k = b
  generalize mapI m2 goodP c = d
  generalize oneI o = x
  -- a b d x R ~ d a x b R
  exact ((List.Perm.swap d b (x :: R)).cons a).trans ((List.Perm.swap d a _).trans (((List.Perm.swap x b R).cons a).cons d))
end Go.Proofs.YtkkfdoippibfkaaGreat

namespace Go.Proofs.YtkkfdoippibfkaaGreat
open Go.PK

section
variable {P : Program} {Q : Exit → Act → World → Prop} {N : Nat} {E : Env} {w0 : World} {S : List Nat} {I H l : List It} {cc : Code}
theorem CW.unpack1 (h : CW P cc Q N E w0 S I l) : CW P cc Q N E w0 S I [allI l] := CW.unpack (by rw [List.append_nil]; exact h)
theorem RQ.pack1 (h : RQ Q N E w0 S I [allI l]) : RQ Q N E w0 S I l := by
  have := RQ.pack (l := l) (B := []) h
  rwa [List.append_nil] at this
theorem ring_perm2 (r m1 m2 : Nat) (A B : List One) (o : One) (c k : List (Value × Value)) :
    (ringI r m1 m2 :: mapI m1 goodI k :: mapI m2 goodP c :: (A ++ o :: B).map oneI).Perm ((A ++ B).map oneI ++ [ringI r m1 m2, mapI m2 goodP c, oneI o, mapI m1 goodI k]) := by
  refine ((ring_perm r m1 m2 A B o c k).trans (List.Perm.swap _ _ _)).trans ?_
  generalize (A ++ B).map oneI = R
  exact (List.perm_append_comm (l₁ := [ringI r m1 m2, mapI m2 goodP c, oneI o, mapI m1 goodI k]) (l₂ := R))
/-- A ring of keys, one source taken out of it. -/
theorem CW.ringOpen {r m1 m2 : Nat} {A B : List One} {o : One} {c : List (Value × Value)} (h : CW P cc Q N E w0 S I [allI ((A ++ B).map oneI), ringI r m1 m2, mapI m2 goodP c, oneI o, mapI m1 goodI (c1 (A ++ o :: B))]) : CW P cc Q N E w0 S I [allI (RingL r m1 m2 (A ++ o :: B) c)] :=
  CW.unpack1 (CW.perm (ring_perm2 r m1 m2 A B o c _) (CW.pack h))
theorem RQ.ringClose {r m1 m2 : Nat} {A B : List One} {o : One} {c : List (Value × Value)} (hr : Rea H [allI ((A ++ B).map oneI), ringI r m1 m2, mapI m2 goodP c, oneI o, mapI m1 goodI (c1 (A ++ o :: B))]) (h : RQ Q N E w0 S I [allI (RingL r m1 m2 (A ++ o :: B) c)]) : RQ Q N E w0 S I H := fun a w ha hw => by
  have h1 := (hw.rea (fun _ h => h) hr).unpack
  have h2 := h1.perm (ring_perm2 r m1 m2 A B o c (c1 (A ++ o :: B))).symm
  exact RQ.pack1 h a w ha h2
end
def raiseE (T : List One) (s : Int) (e' : Nat) : Int := if mayB s = true then match atO T s with
  | none => 5
  | some o => if e' < o.e then 160 else 0 else 2
def raiseT (T : List One) (s : Int) (e' : Nat) : List One := if mayB s = true then match atO T s with
  | none => T
  | some o => if o.e < e' then setT T s e' (-1) else T else T
/-- A ring answers, and is another one. -/
def RingR (r m1 m2 : Nat) (T : List One) (x : Int) : Value → List It → List It → Prop := fun v I' H' => v = .int .i64 x ∧ I' = [] ∧ ∃ c, KOk T c ∧ H' = [allI (RingL r m1 m2 T c)]
theorem raise_any (r m1 m2 : Nat) (T : List One) (c : List (Value × Value)) (s : Int) (e' : Nat) (hT : TOk T) (hc : KOk T c) (he : e' < 4294967296) :
    Spc Tryz.prog 57 #[.pointer (some ⟨r, 0, none⟩), .int .i64 s, .int .u32 (e' : Int)] [] [allI (RingL r m1 m2 T c)] (RingR r m1 m2 (raiseT T s e') (raiseE T s e')) := by
  refine Spc.enter Tryz.func57 rfl rfl rfl (fun w0 hw0 => ?_)
  refine CW.seq ?_
  refine CW.region (ef := []) (bk := []) ?_
  refine RL.assign rfl rfl rfl rfl ?_
  refine RL.nil ?_
  refine NQ.seq ?_
  refine CW.seq ?_
  by_cases hm : mayB s = true
  · cases ho : atO T s with
    | none =>
      have hf : findV T s true = (.pointer none, 5) := by simp [findV, hm, ho]
      refine CW.unpack1 ?_
      refine CW.region (ef := []) (bk := []) ?_
      refine RL.move rfl rfl rfl rfl ?_
      refine RL.move rfl rfl rfl rfl ?_
      refine RL.callvq (find_any r m1 m2 T s true) Tryz.call63 rfl rfl rfl rfl ?_
      refine RL.move rfl rfl rfl rfl ?_
      refine RL.extract rfl rfl rfl rfl rfl ?_
      refine RL.extract rfl rfl rfl rfl rfl ?_
      refine RL.assign rfl rfl rfl rfl ?_
      refine RL.assign rfl rfl rfl rfl ?_
      refine RL.nil ?_
      refine NQ.seq ?_
      refine CW.only (.cons (k := 0) rfl (.cons (k := 1) rfl (.cons (k := 2) rfl (.cons (k := 7) rfl (.cons (k := 8) rfl .nil))))) ?_
      refine CW.seq ?_
      refine CW.block ?_
      refine CW.seq ?_
      rw [hf]
      refine CW.region (ef := []) (bk := []) ?_
      refine RL.move rfl rfl rfl rfl ?_
      refine RL.bin rfl rfl rfl rfl rfl rfl ?_
      refine RL.assign rfl rfl rfl rfl ?_
      refine RL.nil ?_
      refine NQ.seq ?_
      refine CW.condT rfl ((by simp)) ?_
      refine CW.seq ?_
      refine CW.region (ef := []) (bk := []) ?_
      refine RL.move rfl rfl rfl rfl ?_
      refine RL.assign rfl rfl rfl rfl ?_
      refine RL.nil ?_
      refine NQ.seq ?_
      refine CW.only (.cons (k := 6) rfl (.cons (k := 8) rfl .nil)) ?_
      refine CW.ret ?_
      refine RQ.block ?_
      refine RQ.seq ?_
      refine RQ.pack1 (l := RingL r m1 m2 T c) ?_
      exact RQ.post (res1 rfl rfl) (.keep .nil) ⟨by rw [raiseE, if_pos hm, ho]; rfl, rfl, c, by rw [raiseT, if_pos hm, ho]; exact hc, by rw [raiseT, if_pos hm, ho]⟩
    | some o =>
      obtain ⟨hoT, hos⟩ := atO_mem ho
      obtain ⟨A, B, hAB, hd⟩ := atO_split hT ho
      have hk := hT.k o hoT
      have h0 := hT.e2 o hoT
      have g1 := one_e hk
      have hf : findV T s true = (.pointer (some ⟨o.b, 0, none⟩), 0) := by simp [findV, hm, ho]
      rw [show RingL r m1 m2 T c = RingL r m1 m2 (A ++ o :: B) c by rw [hAB]]
      refine CW.ringOpen ?_
      rw [← hAB]
      refine CW.region (ef := []) (bk := []) ?_
      refine RL.move rfl rfl rfl rfl ?_
      refine RL.move rfl rfl rfl rfl ?_
      refine RL.callvq (find_any r m1 m2 T s true) Tryz.call63 rfl rfl rfl rfl ?_
      refine RL.move rfl rfl rfl rfl ?_
      refine RL.extract rfl rfl rfl rfl rfl ?_
      refine RL.extract rfl rfl rfl rfl rfl ?_
      refine RL.assign rfl rfl rfl rfl ?_
      refine RL.assign rfl rfl rfl rfl ?_
      refine RL.nil ?_
      refine NQ.seq ?_
      refine CW.only (.cons (k := 0) rfl (.cons (k := 1) rfl (.cons (k := 2) rfl (.cons (k := 7) rfl (.cons (k := 8) rfl .nil))))) ?_
      refine CW.seq ?_
      refine CW.block ?_
      refine CW.seq ?_
      rw [hf]
      subst hos
      refine CW.region (ef := []) (bk := []) ?_
      refine RL.move rfl rfl rfl rfl ?_
      refine RL.bin rfl rfl rfl rfl rfl rfl ?_
      refine RL.assign rfl rfl rfl rfl ?_
      refine RL.nil ?_
      refine NQ.seq ?_
      refine CW.condF rfl ((by simp)) ?_
      refine CW.seq ?_
      refine CW.region (ef := []) (bk := []) ?_
      refine RL.move rfl rfl rfl rfl ?_
      refine RL.move rfl rfl rfl rfl ?_
      refine RL.nilCheck rfl rfl rfl rfl ?_
      refine RL.fieldAddr fa_137_1 rfl rfl rfl rfl ?_
      refine RL.loadq Tryz.isAgg32 rfl rfl rfl rfl ?_
      refine RL.bin rfl rfl rfl rfl rfl rfl ?_
      refine RL.assign rfl rfl rfl rfl ?_
      refine RL.nil ?_
      refine NQ.seq ?_
      refine CW.only (.cons (k := 0) rfl (.cons (k := 1) rfl (.cons (k := 2) rfl (.cons (k := 7) rfl (.cons (k := 8) rfl (.cons (k := 19) rfl .nil)))))) ?_
      refine CW.cond rfl (fun h1 => ?_) (fun h1 => ?_)
      ·
        refine CW.seq ?_
        refine CW.region (ef := []) (bk := []) ?_
        refine RL.assign rfl rfl rfl rfl ?_
        refine RL.nil ?_
        refine NQ.seq ?_
        refine CW.ret ?_
        refine RQ.block ?_
        refine RQ.seq ?_
        have h1 : e' < o.e := by simp at h1; omega
        refine RQ.ringClose (A := A) (B := B) (o := o) (by rw [hAB]; exact (by repeat (first | exact Rea.nil | (apply Rea.cons; (solve | (repeat (first | exact Del.here | apply Del.there))))))) ?_
        rw [← hAB]
        exact RQ.post (res1 rfl rfl) (.keep .nil) ⟨by rw [raiseE, if_pos hm, ho]; dsimp only; rw [if_pos h1], rfl, c, by rw [raiseT, if_pos hm, ho]; dsimp only; rw [if_neg (by omega)]; exact hc, by rw [raiseT, if_pos hm, ho]; dsimp only; rw [if_neg (by omega)]⟩
      ·
        refine CW.seq ?_
        refine CW.region (ef := []) (bk := []) ?_
        refine RL.move rfl rfl rfl rfl ?_
        refine RL.move rfl rfl rfl rfl ?_
        refine RL.nilCheck rfl rfl rfl rfl ?_
        refine RL.fieldAddr fa_137_1 rfl rfl rfl rfl ?_
        refine RL.loadq Tryz.isAgg32 rfl rfl rfl rfl ?_
        refine RL.bin rfl rfl rfl rfl rfl rfl ?_
        refine RL.assign rfl rfl rfl rfl ?_
        refine RL.nil ?_
        refine NQ.seq ?_
        refine CW.only (.cons (k := 0) rfl (.cons (k := 1) rfl (.cons (k := 2) rfl (.cons (k := 7) rfl (.cons (k := 8) rfl (.cons (k := 26) rfl .nil)))))) ?_
        have h1 : ¬ e' < o.e := by simp at h1; omega
        refine CW.cond rfl (fun h2 => ?_) (fun h2 => ?_)
        ·
          refine CW.region (ef := [4]) (bk := [4]) ?_
          refine RL.move rfl rfl rfl rfl ?_
          refine RL.move rfl rfl rfl rfl ?_
          refine RL.move rfl rfl rfl rfl ?_
          refine RL.move rfl rfl rfl rfl ?_
          refine RL.callq (enter_any r m1 m2 o c e' (-1) hk h0 he) Tryz.call72 rfl rfl rfl rfl rfl (.inr rfl) ?_
          have h2 : o.e < e' := by simp at h2; omega
          rintro _ _ _ ⟨rfl, rfl, c', hsp, rfl⟩
          refine RL.nil ?_
          refine NQ.block ?_
          refine NQ.seq ?_
          refine CW.only (.cons (k := 8) rfl .nil) ?_
          refine CW.seq ?_
          refine CW.region (ef := []) (bk := []) ?_
          refine RL.move rfl rfl rfl rfl ?_
          refine RL.assign rfl rfl rfl rfl ?_
          refine RL.nil ?_
          refine NQ.seq ?_
          refine CW.ret ?_
          have hset : setT T (o.s : Int) e' (-1) = A ++ { o with e := e', g := -1 } :: B := by rw [hAB]; exact setT_mid rfl hd e' (-1)
          refine RQ.ringClose (A := A) (B := B) (o := { o with e := e', g := -1 }) (by rw [← hset, c1_set]; exact (by repeat (first | exact Rea.nil | (apply Rea.cons; (solve | (repeat (first | exact Del.here | apply Del.there))))))) ?_
          have hc' : KOk (A ++ { o with e := e', g := -1 } :: B) c' := KOk.enter hd (fun s e hs => by rw [hc s e, hAB, keyV_mid hd, if_neg hs]) (.inl rfl) hsp
          rw [← hset] at hc' ⊢
          exact RQ.post (res1 rfl rfl) (.keep .nil) ⟨by rw [raiseE, if_pos hm, ho]; dsimp only; rw [if_neg h1]; rfl, rfl, c', by rw [raiseT, if_pos hm, ho]; dsimp only; rw [if_pos h2]; exact hc', by rw [raiseT, if_pos hm, ho]; dsimp only; rw [if_pos h2]⟩
        ·
          refine CW.skip ?_
          refine NQ.block ?_
          refine NQ.seq ?_
          refine CW.seq ?_
          refine CW.region (ef := []) (bk := []) ?_
          refine RL.move rfl rfl rfl rfl ?_
          refine RL.assign rfl rfl rfl rfl ?_
          refine RL.nil ?_
          refine NQ.seq ?_
          refine CW.only (.cons (k := 6) rfl .nil) ?_
          refine CW.ret ?_
          have h2 : ¬ o.e < e' := by simp at h2; omega
          refine RQ.ringClose (A := A) (B := B) (o := o) (by rw [hAB]; exact (by repeat (first | exact Rea.nil | (apply Rea.cons; (solve | (repeat (first | exact Del.here | apply Del.there))))))) ?_
          rw [← hAB]
          exact RQ.post (res1 rfl rfl) (.keep .nil) ⟨by rw [raiseE, if_pos hm, ho]; dsimp only; rw [if_neg h1]; rfl, rfl, c, by rw [raiseT, if_pos hm, ho]; dsimp only; rw [if_neg h2]; exact hc, by rw [raiseT, if_pos hm, ho]; dsimp only; rw [if_neg h2]⟩
  ·
    have hf : findV T s true = (.pointer none, 2) := by simp [findV, hm]
    refine CW.unpack1 ?_
    refine CW.region (ef := []) (bk := []) ?_
    refine RL.move rfl rfl rfl rfl ?_
    refine RL.move rfl rfl rfl rfl ?_
    refine RL.callvq (find_any r m1 m2 T s true) Tryz.call63 rfl rfl rfl rfl ?_
    refine RL.move rfl rfl rfl rfl ?_
    refine RL.extract rfl rfl rfl rfl rfl ?_
    refine RL.extract rfl rfl rfl rfl rfl ?_
    refine RL.assign rfl rfl rfl rfl ?_
    refine RL.assign rfl rfl rfl rfl ?_
    refine RL.nil ?_
    refine NQ.seq ?_
    refine CW.only (.cons (k := 0) rfl (.cons (k := 1) rfl (.cons (k := 2) rfl (.cons (k := 7) rfl (.cons (k := 8) rfl .nil))))) ?_
    refine CW.seq ?_
    refine CW.block ?_
    refine CW.seq ?_
    rw [hf]
    refine CW.region (ef := []) (bk := []) ?_
    refine RL.move rfl rfl rfl rfl ?_
    refine RL.bin rfl rfl rfl rfl rfl rfl ?_
    refine RL.assign rfl rfl rfl rfl ?_
    refine RL.nil ?_
    refine NQ.seq ?_
    refine CW.condT rfl ((by simp)) ?_
    refine CW.seq ?_
    refine CW.region (ef := []) (bk := []) ?_
    refine RL.move rfl rfl rfl rfl ?_
    refine RL.assign rfl rfl rfl rfl ?_
    refine RL.nil ?_
    refine NQ.seq ?_
    refine CW.only (.cons (k := 6) rfl (.cons (k := 8) rfl .nil)) ?_
    refine CW.ret ?_
    refine RQ.block ?_
    refine RQ.seq ?_
    refine RQ.pack1 (l := RingL r m1 m2 T c) ?_
    exact RQ.post (res1 rfl rfl) (.keep .nil) ⟨by rw [raiseE, if_neg hm]; rfl, rfl, c, by rw [raiseT, if_neg hm]; exact hc, by rw [raiseT, if_neg hm]⟩
end Go.Proofs.YtkkfdoippibfkaaGreat

namespace Go.Proofs.YtkkfdoippibfkaaGreat
open Go.PK

def rightR (t g : Int) : Bool := tickB t && decide (g ≥ 0) && decide (g ≤ 65535)
def rollE (T : List One) (s : Int) (e' : Nat) (t g : Int) : Int := if rightR t g = true ∧ mayB s = true then match atO T s with
  | none => 5
  | some o => if o.e = 4294967295 ∨ e' ≠ o.e + 1 then 160 else 0 else 2
def rollT (T : List One) (s : Int) (e' : Nat) (t g : Int) : List One := if rightR t g = true ∧ mayB s = true then match atO T s with
  | none => T
  | some o => if o.e = 4294967295 ∨ e' ≠ o.e + 1 then T else setT T s e' (t + g) else T
theorem roll_any (r m1 m2 : Nat) (T : List One) (c : List (Value × Value)) (s : Int) (e' : Nat) (t g : Int) (hT : TOk T) (hc : KOk T c) (he : e' < 4294967296) :
    Spc Tryz.prog 54 #[.pointer (some ⟨r, 0, none⟩), .int .i64 s, .int .u32 (e' : Int), .int .i64 t, .int .i64 g] [] [allI (RingL r m1 m2 T c)] (RingR r m1 m2 (rollT T s e' t g) (rollE T s e' t g)) := by
  refine Spc.enter Tryz.func54 rfl rfl rfl (fun w0 hw0 => ?_)
  refine CW.seq ?_
  refine CW.region (ef := []) (bk := []) ?_
  refine RL.assign rfl rfl rfl rfl ?_
  refine RL.nil ?_
  refine NQ.seq ?_
  refine CW.seq ?_
  by_cases hm : rightR t g = true ∧ mayB s = true
  · cases ho : atO T s with
    | none =>
      have hf : findV T s (rightR t g) = (.pointer none, 5) := by simp [findV, hm, ho]
      refine CW.unpack1 ?_
      refine CW.region (ef := []) (bk := []) ?_
      refine RL.move rfl rfl rfl rfl ?_
      refine RL.move rfl rfl rfl rfl ?_
      refine RL.move rfl rfl rfl rfl ?_
      refine RL.callvq (ktick_any t) Tryz.call78 rfl rfl rfl rfl ?_
      refine RL.move rfl rfl rfl rfl ?_
      apply RL.andB (d := 18) (dp := 21) (l' := (Sq.of [8, 9, 10, 11, 12, 13, 14, 15, 16, 17])) rfl (.cons (k := 0) rfl (.cons (k := 1) rfl (.cons (k := 2) rfl (.cons (k := 3) rfl (.cons (k := 4) rfl (.cons (k := 14) rfl (.cons (k := 15) rfl .nil)))))))
      ·
        intro hb5 K5
        refine RL.move rfl rfl rfl rfl ?_
        refine RL.bin rfl rfl rfl rfl rfl rfl ?_
        refine RL.pickT rfl rfl rfl rfl rfl ?_
        exact K5 _ (.cons rfl (.cons (k := 0) rfl (.cons (k := 1) rfl (.cons (k := 2) rfl (.cons (k := 3) rfl (.cons (k := 4) rfl (.cons (k := 14) rfl (.cons (k := 15) rfl .nil))))))))
      ·
        intro hb5 K5
        refine RL.skip rfl rfl rfl rfl ?_
        refine RL.skip rfl rfl rfl rfl ?_
        refine RL.pickF rfl rfl rfl rfl rfl ?_
        exact K5 _ (.cons rfl (.cons (k := 0) rfl (.cons (k := 1) rfl (.cons (k := 2) rfl (.cons (k := 3) rfl (.cons (k := 4) rfl (.cons (k := 14) rfl (.cons (k := 15) rfl .nil))))))))
      refine RL.move rfl rfl rfl rfl ?_
      apply RL.andB (d := 22) (dp := 25) (l' := (Sq.of [12, 13, 14, 15, 16, 17])) rfl (.cons (k := 0) rfl (.cons (k := 1) rfl (.cons (k := 2) rfl (.cons (k := 3) rfl (.cons (k := 4) rfl (.cons (k := 14) rfl (.cons (k := 15) rfl .nil)))))))
      ·
        intro hb9 K9
        refine RL.move rfl rfl rfl rfl ?_
        refine RL.bin rfl rfl rfl rfl rfl rfl ?_
        refine RL.pickT rfl rfl rfl rfl rfl ?_
        exact K9 _ (.cons rfl (.cons (k := 0) rfl (.cons (k := 1) rfl (.cons (k := 2) rfl (.cons (k := 3) rfl (.cons (k := 4) rfl (.cons (k := 14) rfl (.cons (k := 15) rfl .nil))))))))
      ·
        intro hb9 K9
        refine RL.skip rfl rfl rfl rfl ?_
        refine RL.skip rfl rfl rfl rfl ?_
        refine RL.pickF rfl rfl rfl rfl rfl ?_
        exact K9 _ (.cons rfl (.cons (k := 0) rfl (.cons (k := 1) rfl (.cons (k := 2) rfl (.cons (k := 3) rfl (.cons (k := 4) rfl (.cons (k := 14) rfl (.cons (k := 15) rfl .nil))))))))
      refine RL.callvq (find_any r m1 m2 T s (rightR t g)) Tryz.call63 rfl rfl rfl rfl ?_
      refine RL.move rfl rfl rfl rfl ?_
      refine RL.extract rfl rfl rfl rfl rfl ?_
      refine RL.extract rfl rfl rfl rfl rfl ?_
      refine RL.assign rfl rfl rfl rfl ?_
      refine RL.assign rfl rfl rfl rfl ?_
      refine RL.nil ?_
      refine NQ.seq ?_
      refine CW.only (.cons (k := 0) rfl (.cons (k := 1) rfl (.cons (k := 2) rfl (.cons (k := 3) rfl (.cons (k := 4) rfl (.cons (k := 11) rfl (.cons (k := 12) rfl .nil))))))) ?_
      refine CW.seq ?_
      refine CW.block ?_
      refine CW.seq ?_
      rw [hf]
      refine CW.region (ef := []) (bk := []) ?_
      refine RL.move rfl rfl rfl rfl ?_
      refine RL.bin rfl rfl rfl rfl rfl rfl ?_
      refine RL.assign rfl rfl rfl rfl ?_
      refine RL.nil ?_
      refine NQ.seq ?_
      refine CW.condT rfl ((by simp)) ?_
      refine CW.seq ?_
      refine CW.region (ef := []) (bk := []) ?_
      refine RL.move rfl rfl rfl rfl ?_
      refine RL.assign rfl rfl rfl rfl ?_
      refine RL.nil ?_
      refine NQ.seq ?_
      refine CW.ret ?_
      refine RQ.block ?_
      refine RQ.seq ?_
      refine RQ.pack1 (l := RingL r m1 m2 T c) ?_
      exact RQ.post (res1 rfl rfl) (.keep .nil) ⟨by rw [rollE, if_pos hm, ho]; rfl, rfl, c, by rw [rollT, if_pos hm, ho]; exact hc, by rw [rollT, if_pos hm, ho]⟩
    | some o =>
      obtain ⟨hoT, hos⟩ := atO_mem ho
      obtain ⟨A, B, hAB, hd⟩ := atO_split hT ho
      have hk := hT.k o hoT
      have h0 := hT.e2 o hoT
      have g1 := one_e hk
      have hf : findV T s (rightR t g) = (.pointer (some ⟨o.b, 0, none⟩), 0) := by simp [findV, hm, ho]
      have hgt : 0 ≤ t ∧ t ≤ 1099511627776 ∧ 0 ≤ g ∧ g ≤ 65535 := by have := hm.1; simp [rightR, tickB] at this; omega
      rw [show RingL r m1 m2 T c = RingL r m1 m2 (A ++ o :: B) c by rw [hAB]]
      refine CW.ringOpen ?_
      rw [← hAB]
      refine CW.region (ef := []) (bk := []) ?_
      refine RL.move rfl rfl rfl rfl ?_
      refine RL.move rfl rfl rfl rfl ?_
      refine RL.move rfl rfl rfl rfl ?_
      refine RL.callvq (ktick_any t) Tryz.call78 rfl rfl rfl rfl ?_
      refine RL.move rfl rfl rfl rfl ?_
      apply RL.andB (d := 18) (dp := 21) (l' := (Sq.of [8, 9, 10, 11, 12, 13, 14, 15, 16, 17])) rfl (.cons (k := 0) rfl (.cons (k := 1) rfl (.cons (k := 2) rfl (.cons (k := 3) rfl (.cons (k := 4) rfl (.cons (k := 14) rfl (.cons (k := 15) rfl .nil)))))))
      ·
        intro hb5 K5
        refine RL.move rfl rfl rfl rfl ?_
        refine RL.bin rfl rfl rfl rfl rfl rfl ?_
        refine RL.pickT rfl rfl rfl rfl rfl ?_
        exact K5 _ (.cons rfl (.cons (k := 0) rfl (.cons (k := 1) rfl (.cons (k := 2) rfl (.cons (k := 3) rfl (.cons (k := 4) rfl (.cons (k := 14) rfl (.cons (k := 15) rfl .nil))))))))
      ·
        intro hb5 K5
        refine RL.skip rfl rfl rfl rfl ?_
        refine RL.skip rfl rfl rfl rfl ?_
        refine RL.pickF rfl rfl rfl rfl rfl ?_
        exact K5 _ (.cons rfl (.cons (k := 0) rfl (.cons (k := 1) rfl (.cons (k := 2) rfl (.cons (k := 3) rfl (.cons (k := 4) rfl (.cons (k := 14) rfl (.cons (k := 15) rfl .nil))))))))
      refine RL.move rfl rfl rfl rfl ?_
      apply RL.andB (d := 22) (dp := 25) (l' := (Sq.of [12, 13, 14, 15, 16, 17])) rfl (.cons (k := 0) rfl (.cons (k := 1) rfl (.cons (k := 2) rfl (.cons (k := 3) rfl (.cons (k := 4) rfl (.cons (k := 14) rfl (.cons (k := 15) rfl .nil)))))))
      ·
        intro hb9 K9
        refine RL.move rfl rfl rfl rfl ?_
        refine RL.bin rfl rfl rfl rfl rfl rfl ?_
        refine RL.pickT rfl rfl rfl rfl rfl ?_
        exact K9 _ (.cons rfl (.cons (k := 0) rfl (.cons (k := 1) rfl (.cons (k := 2) rfl (.cons (k := 3) rfl (.cons (k := 4) rfl (.cons (k := 14) rfl (.cons (k := 15) rfl .nil))))))))
      ·
        intro hb9 K9
        refine RL.skip rfl rfl rfl rfl ?_
        refine RL.skip rfl rfl rfl rfl ?_
        refine RL.pickF rfl rfl rfl rfl rfl ?_
        exact K9 _ (.cons rfl (.cons (k := 0) rfl (.cons (k := 1) rfl (.cons (k := 2) rfl (.cons (k := 3) rfl (.cons (k := 4) rfl (.cons (k := 14) rfl (.cons (k := 15) rfl .nil))))))))
      refine RL.callvq (find_any r m1 m2 T s (rightR t g)) Tryz.call63 rfl rfl rfl rfl ?_
      refine RL.move rfl rfl rfl rfl ?_
      refine RL.extract rfl rfl rfl rfl rfl ?_
      refine RL.extract rfl rfl rfl rfl rfl ?_
      refine RL.assign rfl rfl rfl rfl ?_
      refine RL.assign rfl rfl rfl rfl ?_
      refine RL.nil ?_
      refine NQ.seq ?_
      refine CW.only (.cons (k := 0) rfl (.cons (k := 1) rfl (.cons (k := 2) rfl (.cons (k := 3) rfl (.cons (k := 4) rfl (.cons (k := 11) rfl (.cons (k := 12) rfl .nil))))))) ?_
      refine CW.seq ?_
      refine CW.block ?_
      refine CW.seq ?_
      rw [hf]
      subst hos
      refine CW.region (ef := []) (bk := []) ?_
      refine RL.move rfl rfl rfl rfl ?_
      refine RL.bin rfl rfl rfl rfl rfl rfl ?_
      refine RL.assign rfl rfl rfl rfl ?_
      refine RL.nil ?_
      refine NQ.seq ?_
      refine CW.condF rfl ((by simp)) ?_
      refine CW.seq ?_
      refine CW.region (ef := []) (bk := []) ?_
      refine RL.move rfl rfl rfl rfl ?_
      refine RL.nilCheck rfl rfl rfl rfl ?_
      refine RL.fieldAddr fa_137_1 rfl rfl rfl rfl ?_
      refine RL.loadq Tryz.isAgg32 rfl rfl rfl rfl ?_
      refine RL.bin rfl rfl rfl rfl rfl rfl ?_
      refine RL.move rfl rfl rfl rfl ?_
      apply RL.orB (d := 39) (dp := 47) (l' := (Sq.of [14])) rfl (.cons (k := 0) rfl (.cons (k := 1) rfl (.cons (k := 2) rfl (.cons (k := 3) rfl (.cons (k := 4) rfl (.cons (k := 11) rfl (.cons (k := 12) rfl .nil)))))))
      ·
        intro hb6 K6
        refine RL.move rfl rfl rfl rfl ?_
        refine RL.move rfl rfl rfl rfl ?_
        refine RL.nilCheck rfl rfl rfl rfl ?_
        refine RL.fieldAddr fa_137_1 rfl rfl rfl rfl ?_
        refine RL.loadq Tryz.isAgg32 rfl rfl rfl rfl ?_
        refine RL.bin rfl rfl rfl rfl rfl rfl ?_
        refine RL.bin rfl rfl rfl rfl rfl rfl ?_
        refine RL.pickF rfl rfl rfl rfl rfl ?_
        exact K6 _ (.cons rfl (.cons (k := 0) rfl (.cons (k := 1) rfl (.cons (k := 2) rfl (.cons (k := 3) rfl (.cons (k := 4) rfl (.cons (k := 11) rfl (.cons (k := 12) rfl .nil))))))))
      ·
        intro hb6 K6
        refine RL.skip rfl rfl rfl rfl ?_
        refine RL.skip rfl rfl rfl rfl ?_
        refine RL.skip rfl rfl rfl rfl ?_
        refine RL.skip rfl rfl rfl rfl ?_
        refine RL.skip rfl rfl rfl rfl ?_
        refine RL.skip rfl rfl rfl rfl ?_
        refine RL.skip rfl rfl rfl rfl ?_
        refine RL.pickT rfl rfl rfl rfl rfl ?_
        exact K6 _ (.cons rfl (.cons (k := 0) rfl (.cons (k := 1) rfl (.cons (k := 2) rfl (.cons (k := 3) rfl (.cons (k := 4) rfl (.cons (k := 11) rfl (.cons (k := 12) rfl .nil))))))))
      refine RL.assign rfl rfl rfl rfl ?_
      refine RL.nil ?_
      refine NQ.seq ?_
      have hw : o.e ≠ 4294967295 → IntKind.u32.wrap ((o.e : Int) + 1) = (o.e : Int) + 1 := fun h => by simp [IntKind.wrap, IntKind.bits, IntKind.signed]; omega
      refine CW.cond rfl (fun h1 => ?_) (fun h1 => ?_)
      ·
        refine CW.seq ?_
        refine CW.region (ef := []) (bk := []) ?_
        refine RL.assign rfl rfl rfl rfl ?_
        refine RL.nil ?_
        refine NQ.seq ?_
        refine CW.ret ?_
        refine RQ.block ?_
        refine RQ.seq ?_
        have h1 : o.e = 4294967295 ∨ e' ≠ o.e + 1 := by
          by_cases h : o.e = 4294967295
          · exact .inl h
          · rw [hw h] at h1; simp at h1; omega
        refine RQ.ringClose (A := A) (B := B) (o := o) (by rw [hAB]; exact (by repeat (first | exact Rea.nil | (apply Rea.cons; (solve | (repeat (first | exact Del.here | apply Del.there))))))) ?_
        rw [← hAB]
        exact RQ.post (res1 rfl rfl) (.keep .nil) ⟨by rw [rollE, if_pos hm, ho]; dsimp only; rw [if_pos h1], rfl, c, by rw [rollT, if_pos hm, ho]; dsimp only; rw [if_pos h1]; exact hc, by rw [rollT, if_pos hm, ho]; dsimp only; rw [if_pos h1]⟩
      ·
        have h1 : ¬ (o.e = 4294967295 ∨ e' ≠ o.e + 1) := by
          rintro (h | h)
          · simp [h] at h1
          · by_cases h2 : o.e = 4294967295
            · simp [h2] at h1
            · rw [hw h2] at h1; simp at h1; omega
        refine CW.skip ?_
        refine NQ.block ?_
        refine NQ.seq ?_
        refine CW.seq ?_
        refine CW.region (ef := [7]) (bk := [7]) ?_
        refine RL.move rfl rfl rfl rfl ?_
        refine RL.move rfl rfl rfl rfl ?_
        refine RL.move rfl rfl rfl rfl ?_
        refine RL.move rfl rfl rfl rfl ?_
        refine RL.move rfl rfl rfl rfl ?_
        refine RL.move rfl rfl rfl rfl ?_
        refine RL.binX rfl rfl rfl rfl rfl rfl (wrapV_i64 (by omega) (by omega)) ?_
        refine RL.callq (enter_any r m1 m2 o c e' (t + g) hk h0 he) Tryz.call72 rfl rfl rfl rfl rfl (.inr rfl) ?_
        rintro _ _ _ ⟨rfl, rfl, c', hsp, rfl⟩
        refine RL.nil ?_
        refine NQ.seq ?_
        refine CW.only (.cons (k := 12) rfl .nil) ?_
        refine CW.seq ?_
        refine CW.region (ef := []) (bk := []) ?_
        refine RL.move rfl rfl rfl rfl ?_
        refine RL.assign rfl rfl rfl rfl ?_
        refine RL.nil ?_
        refine NQ.seq ?_
        refine CW.ret ?_
        have h2 : e' = o.e + 1 := by omega
        have hset : setT T (o.s : Int) e' (t + g) = A ++ { o with e := e', g := t + g } :: B := by rw [hAB]; exact setT_mid rfl hd e' (t + g)
        refine RQ.ringClose (A := A) (B := B) (o := { o with e := e', g := t + g }) (by rw [← hset, c1_set]; exact (by repeat (first | exact Rea.nil | (apply Rea.cons; (solve | (repeat (first | exact Del.here | apply Del.there))))))) ?_
        have hlast : lookV (pl (o.s : Int) (o.e : Int)) c = some (keyE o.k o.e) := by
          rw [hc, hAB, keyV_mid hd, if_pos rfl, if_pos (by simp [hasE])]; rfl
        have hc' : KOk (A ++ { o with e := e', g := t + g } :: B) c' := KOk.enter hd (fun s e hs => by rw [hc s e, hAB, keyV_mid hd, if_neg hs]) (.inr ⟨h2, by omega, hlast⟩) hsp
        rw [← hset] at hc' ⊢
        exact RQ.post (res1 rfl rfl) (.keep .nil) ⟨by rw [rollE, if_pos hm, ho]; dsimp only; rw [if_neg h1]; rfl, rfl, c', by rw [rollT, if_pos hm, ho]; dsimp only; rw [if_neg h1]; exact hc', by rw [rollT, if_pos hm, ho]; dsimp only; rw [if_neg h1]⟩
  ·
    have hf : findV T s (rightR t g) = (.pointer none, 2) := by simp only [findV]; rw [if_neg hm]
    refine CW.unpack1 ?_
    refine CW.region (ef := []) (bk := []) ?_
    refine RL.move rfl rfl rfl rfl ?_
    refine RL.move rfl rfl rfl rfl ?_
    refine RL.move rfl rfl rfl rfl ?_
    refine RL.callvq (ktick_any t) Tryz.call78 rfl rfl rfl rfl ?_
    refine RL.move rfl rfl rfl rfl ?_
    apply RL.andB (d := 18) (dp := 21) (l' := (Sq.of [8, 9, 10, 11, 12, 13, 14, 15, 16, 17])) rfl (.cons (k := 0) rfl (.cons (k := 1) rfl (.cons (k := 2) rfl (.cons (k := 3) rfl (.cons (k := 4) rfl (.cons (k := 14) rfl (.cons (k := 15) rfl .nil)))))))
    ·
      intro hb5 K5
      refine RL.move rfl rfl rfl rfl ?_
      refine RL.bin rfl rfl rfl rfl rfl rfl ?_
      refine RL.pickT rfl rfl rfl rfl rfl ?_
      exact K5 _ (.cons rfl (.cons (k := 0) rfl (.cons (k := 1) rfl (.cons (k := 2) rfl (.cons (k := 3) rfl (.cons (k := 4) rfl (.cons (k := 14) rfl (.cons (k := 15) rfl .nil))))))))
    ·
      intro hb5 K5
      refine RL.skip rfl rfl rfl rfl ?_
      refine RL.skip rfl rfl rfl rfl ?_
      refine RL.pickF rfl rfl rfl rfl rfl ?_
      exact K5 _ (.cons rfl (.cons (k := 0) rfl (.cons (k := 1) rfl (.cons (k := 2) rfl (.cons (k := 3) rfl (.cons (k := 4) rfl (.cons (k := 14) rfl (.cons (k := 15) rfl .nil))))))))
    refine RL.move rfl rfl rfl rfl ?_
    apply RL.andB (d := 22) (dp := 25) (l' := (Sq.of [12, 13, 14, 15, 16, 17])) rfl (.cons (k := 0) rfl (.cons (k := 1) rfl (.cons (k := 2) rfl (.cons (k := 3) rfl (.cons (k := 4) rfl (.cons (k := 14) rfl (.cons (k := 15) rfl .nil)))))))
    ·
      intro hb9 K9
      refine RL.move rfl rfl rfl rfl ?_
      refine RL.bin rfl rfl rfl rfl rfl rfl ?_
      refine RL.pickT rfl rfl rfl rfl rfl ?_
      exact K9 _ (.cons rfl (.cons (k := 0) rfl (.cons (k := 1) rfl (.cons (k := 2) rfl (.cons (k := 3) rfl (.cons (k := 4) rfl (.cons (k := 14) rfl (.cons (k := 15) rfl .nil))))))))
    ·
      intro hb9 K9
      refine RL.skip rfl rfl rfl rfl ?_
      refine RL.skip rfl rfl rfl rfl ?_
      refine RL.pickF rfl rfl rfl rfl rfl ?_
      exact K9 _ (.cons rfl (.cons (k := 0) rfl (.cons (k := 1) rfl (.cons (k := 2) rfl (.cons (k := 3) rfl (.cons (k := 4) rfl (.cons (k := 14) rfl (.cons (k := 15) rfl .nil))))))))
    refine RL.callvq (find_any r m1 m2 T s (rightR t g)) Tryz.call63 rfl rfl rfl rfl ?_
    refine RL.move rfl rfl rfl rfl ?_
    refine RL.extract rfl rfl rfl rfl rfl ?_
    refine RL.extract rfl rfl rfl rfl rfl ?_
    refine RL.assign rfl rfl rfl rfl ?_
    refine RL.assign rfl rfl rfl rfl ?_
    refine RL.nil ?_
    refine NQ.seq ?_
    refine CW.only (.cons (k := 0) rfl (.cons (k := 1) rfl (.cons (k := 2) rfl (.cons (k := 3) rfl (.cons (k := 4) rfl (.cons (k := 11) rfl (.cons (k := 12) rfl .nil))))))) ?_
    refine CW.seq ?_
    refine CW.block ?_
    refine CW.seq ?_
    rw [hf]
    refine CW.region (ef := []) (bk := []) ?_
    refine RL.move rfl rfl rfl rfl ?_
    refine RL.bin rfl rfl rfl rfl rfl rfl ?_
    refine RL.assign rfl rfl rfl rfl ?_
    refine RL.nil ?_
    refine NQ.seq ?_
    refine CW.condT rfl ((by simp)) ?_
    refine CW.seq ?_
    refine CW.region (ef := []) (bk := []) ?_
    refine RL.move rfl rfl rfl rfl ?_
    refine RL.assign rfl rfl rfl rfl ?_
    refine RL.nil ?_
    refine NQ.seq ?_
    refine CW.ret ?_
    refine RQ.block ?_
    refine RQ.seq ?_
    refine RQ.pack1 (l := RingL r m1 m2 T c) ?_
    exact RQ.post (res1 rfl rfl) (.keep .nil) ⟨by rw [rollE, if_neg hm]; rfl, rfl, c, by rw [rollT, if_neg hm]; exact hc, by rw [rollT, if_neg hm]⟩
end Go.Proofs.YtkkfdoippibfkaaGreat

namespace Go.Proofs.YtkkfdoippibfkaaGreat
open Go.PK

section
variable {P : Program} {Q : Exit → Act → World → Prop} {N : Nat} {E : Env} {w0 : World} {S : List Nat} {I H B : List It} {cc : Code}
theorem CW.ringOpen0 {r m1 m2 : Nat} {T : List One} {c : List (Value × Value)} (h : CW P cc Q N E w0 S I (allI (T.map oneI) :: ringI r m1 m2 :: mapI m2 goodP c :: mapI m1 goodI (c1 T) :: B)) : CW P cc Q N E w0 S I (allI (RingL r m1 m2 T c) :: B) :=
  CW.unpack (CW.perm (by
    show (ringI r m1 m2 :: mapI m1 goodI (c1 T) :: mapI m2 goodP c :: (T.map oneI ++ B)).Perm (T.map oneI ++ (ringI r m1 m2 :: mapI m2 goodP c :: mapI m1 goodI (c1 T) :: B))
    generalize T.map oneI = R
    generalize ringI r m1 m2 = a
    generalize mapI m1 goodI (c1 T) = b
    generalize mapI m2 goodP c = d
    refine ((List.Perm.swap d b (R ++ B)).cons a).trans ?_
    have : R ++ a :: d :: b :: B = R ++ ([a, d, b] ++ B) := rfl
    rw [this, ← List.append_assoc]
    exact (List.perm_append_comm (l₁ := [a, d, b]) (l₂ := R)).append_right B) (CW.pack h))
theorem RQ.ringClose0 {r m1 m2 : Nat} {T : List One} {c : List (Value × Value)} (hr : Rea H [allI (T.map oneI), ringI r m1 m2, mapI m2 goodP c, mapI m1 goodI (c1 T)]) (h : RQ Q N E w0 S I [allI (RingL r m1 m2 T c)]) : RQ Q N E w0 S I H := fun a w ha hw => by
  have h1 := (hw.rea (fun _ h => h) hr).unpack
  have hp : (T.map oneI ++ [ringI r m1 m2, mapI m2 goodP c, mapI m1 goodI (c1 T)]).Perm (RingL r m1 m2 T c) := by
    refine List.perm_append_comm.trans ?_
    exact (List.Perm.swap _ _ _).cons _
  exact RQ.pack1 h a w ha (h1.perm hp)
end
theorem setV_absent {k v : Value} : ∀ {c : List (Value × Value)}, lookV k c = none → setV k v c = c ++ [(k, v)]
  | [], _ => rfl
  | (a, u) :: c, h => by
    rw [lookV] at h
    split at h
    · cases h
    · next hn => rw [setV, if_neg hn, setV_absent h]; rfl
def NewR : Value → List It → List It → Prop := fun v I' H' => ∃ r m1 m2, v = .pointer (some ⟨r, 0, none⟩) ∧ I' = [] ∧ H' = [allI (RingL r m1 m2 [] [])]
theorem tok_nil : TOk [] := ⟨by simp, by simp, by simp, by simp, by simp, by simp⟩
theorem kok_nil : KOk [] [] := fun _ _ => rfl
def putE (T : List One) (s : Int) : Int := if mayB s = true then match atO T s with
  | none => 0
  | some _ => 6 else 2
def putT (T : List One) (s : Int) (k : List B8) (b : Nat) : List One := if mayB s = true then match atO T s with
  | none => T ++ [⟨s.toNat, k, 1, -1, b⟩]
  | some _ => T else T
theorem fill_one {k : List B8} {n b : Nat} (h : k.length = 32) {places : Array (Nat × Nat)} (hp : places = #[(0, 32), (32, 1), (33, 1)]) :
    fillL (places[·]?) (bytes zeros ++ [.int .u32 0, .int .i64 0]) [(0, .agg (bytes k).toArray)] = some (One.cells ⟨n, k, 0, 0, b⟩) := by
  subst hp
  refine fill_seg [] (bytes zeros) [.int .u32 0, .int .i64 0] rfl (agg_cells _) rfl rfl rfl (by simp [h]) ?_
  simp [One.cells, fillL]
theorem new_keys : Spc Tryz.prog 25 #[] [] [] NewR := by
  refine Spc.enter Tryz.func25 rfl rfl rfl (fun w0 hw0 => ?_)
  refine CW.seq ?_
  refine CW.region (ef := []) (bk := []) ?_
  refine RL.assign rfl rfl rfl rfl ?_
  refine RL.nil ?_
  refine NQ.seq ?_
  refine CW.seq ?_
  refine CW.region (ef := [0, 1, 3]) (bk := []) ?_
  refine RL.makeMap (good := goodI) rfl rfl rfl rfl (fun m1 => ?_)
  refine RL.makeMap (good := goodP) rfl rfl rfl rfl (fun m2 => ?_)
  refine RL.buildS [_, _] Tryz.zeroValue126 pl_126 rfl rfl rfl rfl rfl ?_
  refine RL.box rfl rfl rfl rfl rfl rfl ?_
  intro b1
  refine RL.assign rfl rfl rfl rfl ?_
  refine RL.nil ?_
  refine NQ.seq ?_
  refine CW.ret ?_
  refine RQ.perm ((List.Perm.swap _ _ _).cons _) ?_
  refine RQ.pack1 (l := RingL b1 m1 m2 [] []) ?_
  exact RQ.post (res1 rfl rfl) (.keep .nil) ⟨b1, m1, m2, rfl, rfl, rfl⟩
theorem put_any (r m1 m2 : Nat) (T : List One) (c : List (Value × Value)) (s : Int) (k : List B8) (hk : k.length = 32) (hT : TOk T) (hc : KOk T c) :
    Spc Tryz.prog 41 #[.pointer (some ⟨r, 0, none⟩), .int .i64 s, .agg (bytes k).toArray] [] [allI (RingL r m1 m2 T c)]
      (fun v I' H' => v = .int .i64 (putE T s) ∧ I' = [] ∧ ∃ b c', KOk (putT T s k b) c' ∧ H' = [allI (RingL r m1 m2 (putT T s k b) c')]) := by
  refine Spc.enter Tryz.func41 rfl rfl rfl (fun w0 hw0 => ?_)
  refine CW.seq ?_
  refine CW.region (ef := [0]) (bk := []) ?_
  refine RL.box rfl rfl rfl rfl rfl rfl ?_
  intro b1
  refine RL.assign rfl rfl rfl rfl ?_
  refine RL.nil ?_
  refine NQ.seq ?_
  refine CW.seq ?_
  refine CW.perm (List.Perm.swap _ _ _) ?_
  refine CW.ringOpen0 ?_
  by_cases hm : mayB s = true
  · cases ho : atO T s with
    | none =>
      have hf : findV T s true = (.pointer none, 5) := by simp [findV, hm, ho]
      refine CW.region (ef := []) (bk := []) ?_
      refine RL.move rfl rfl rfl rfl ?_
      refine RL.move rfl rfl rfl rfl ?_
      refine RL.callvq (find_any r m1 m2 T s true) Tryz.call63 rfl rfl rfl rfl ?_
      refine RL.move rfl rfl rfl rfl ?_
      refine RL.extract rfl rfl rfl rfl rfl ?_
      refine RL.extract rfl rfl rfl rfl rfl ?_
      refine RL.assign rfl rfl rfl rfl ?_
      refine RL.assign rfl rfl rfl rfl ?_
      refine RL.nil ?_
      refine NQ.seq ?_
      refine CW.only (.cons (k := 0) rfl (.cons (k := 1) rfl (.cons (k := 5) rfl (.cons (k := 8) rfl .nil)))) ?_
      refine CW.seq ?_
      rw [hf]
      obtain ⟨n, rfl⟩ : ∃ n : Nat, s = (n : Int) := ⟨s.toNat, by simp [mayB] at hm; omega⟩
      have hn8 : n < 8 := by simp [mayB] at hm; omega
      have hd : ∀ x ∈ T ++ [], x.s ≠ n := fun x hx e => by
        rw [List.append_nil] at hx
        have := List.find?_eq_none.1 ho x hx
        simp [e] at this
      refine CW.region (ef := []) (bk := []) ?_
      refine RL.move rfl rfl rfl rfl ?_
      refine RL.nil ?_
      refine NQ.seq ?_
      refine CW.block ?_
      refine CW.seq ?_
      refine CW.region (ef := []) (bk := []) ?_
      refine RL.bin rfl rfl rfl rfl rfl rfl ?_
      refine RL.assign rfl rfl rfl rfl ?_
      refine RL.nil ?_
      refine NQ.seq ?_
      refine CW.condF rfl ((by simp)) ?_
      refine CW.seq ?_
      refine CW.region (ef := []) (bk := []) ?_
      refine RL.bin rfl rfl rfl rfl rfl rfl ?_
      refine RL.assign rfl rfl rfl rfl ?_
      refine RL.nil ?_
      refine NQ.seq ?_
      refine CW.condT rfl ((by simp)) ?_
      refine CW.seq ?_
      refine CW.regionD (Sq.of [0, 1, 2, 3, 4, 5, 6, 7, 8]) [7, 8] [8] [0, 1, 2, 4, 6] mixed (by kernel_rfl) ?_
      refine RL.move rfl rfl rfl rfl ?_
      refine RL.nilCheck rfl rfl rfl rfl ?_
      refine RL.fieldAddr fa_126_0 rfl rfl rfl rfl ?_
      refine RL.loadq Tryz.isAgg123 rfl rfl rfl rfl ?_
      refine RL.move rfl rfl rfl rfl ?_
      refine RL.loadW Tryz.isAgg56 Tryz.sizeOf56 rfl rfl rfl rfl (by repeat (first | exact List.Mem.head _ | apply List.Mem.tail)) (by first | rfl | assumption | (simp only [List.length_map]; assumption) | (simp only [List.length_map, List.length_replicate, hk]; done) | (simp; done)) ?_
      refine RL.buildS (One.cells ⟨n, k, 0, 0, 0⟩) Tryz.zeroValue137 pl_137 rfl rfl rfl rfl (fill_one hk rfl) ?_
      refine RL.box (cs := One.cells ⟨n, k, 0, 0, 0⟩) rfl rfl rfl rfl rfl rfl (fun bo => ?_)
      refine RL.mapUpdate keyI Tryz.runUnderlying123 rfl rfl rfl rfl rfl rfl rfl ⟨(n : Int), rfl⟩ (by repeat (first | exact Upd.here | apply Upd.there)) ?_
      refine RL.nil ?_
      refine NQ.seq ?_
      refine CW.only (.cons (k := 0) rfl (.cons (k := 1) rfl .nil)) ?_
      refine CW.seq ?_
      refine CW.rea (fun _ h => h) (H' := [ringI r m1 m2, mapI m2 goodP c, oneI ⟨n, k, 0, 0, bo⟩, allI (T.map oneI), mapI m1 goodI (setV (.int .i64 (n : Int)) (.pointer (some ⟨bo, 0, none⟩)) (c1 T))]) (by repeat (first | exact Rea.nil | (apply Rea.cons; (solve | (repeat (first | exact Del.here | apply Del.there)))))) ?_
      refine CW.region (ef := [8]) (bk := [8]) ?_
      refine RL.move rfl rfl rfl rfl ?_
      refine RL.move rfl rfl rfl rfl ?_
      refine RL.move rfl rfl rfl rfl ?_
      refine RL.nilCheck rfl rfl rfl rfl ?_
      refine RL.fieldAddr fa_126_0 rfl rfl rfl rfl ?_
      refine RL.loadq Tryz.isAgg123 rfl rfl rfl rfl ?_
      refine RL.move rfl rfl rfl rfl ?_
      refine RL.lookup keyI Tryz.runUnderlying123 Tryz.zeroValue133 rfl rfl rfl rfl rfl ⟨(n : Int), rfl⟩ (MapAt.own (by repeat (first | exact List.Mem.head _ | apply List.Mem.tail))) ?_
      rw [look_set, if_pos rfl]
      refine RL.callq (enter_any r m1 m2 ⟨n, k, 0, 0, bo⟩ c 1 (-1) hk (by show 0 < 4294967296; decide) (by decide)) Tryz.call72 rfl rfl rfl rfl rfl (.inr rfl) ?_
      rintro _ _ _ ⟨rfl, rfl, c', hsp, rfl⟩
      refine RL.nil ?_
      refine NQ.seq ?_
      refine CW.only .nil ?_
      refine CW.seq ?_
      refine CW.region (ef := []) (bk := []) ?_
      refine RL.assign rfl rfl rfl rfl ?_
      refine RL.nil ?_
      refine NQ.seq ?_
      refine CW.ret ?_
      refine RQ.block ?_
      have hc' : KOk (T ++ { (⟨n, k, 0, 0, bo⟩ : One) with e := 1, g := -1 } :: []) c' := KOk.enter hd (fun s e hs => by rw [hc s e, List.append_nil]) (.inl rfl) hsp
      have hset : setV (.int .i64 (n : Int)) (.pointer (some ⟨bo, 0, none⟩)) (c1 T) = c1 (T ++ [⟨n, k, 1, -1, bo⟩]) := by
        rw [setV_absent (by rw [look_c1, ho]; rfl), c1, c1, List.map_append]; rfl
      rw [hset]
      refine RQ.ringClose (A := T) (B := []) (o := ⟨n, k, 1, -1, bo⟩) (by rw [List.append_nil]; exact (by repeat (first | exact Rea.nil | (apply Rea.cons; (solve | (repeat (first | exact Del.here | apply Del.there))))))) ?_
      have hp : putT T (n : Int) k bo = T ++ [⟨n, k, 1, -1, bo⟩] := by rw [putT, if_pos hm, ho]; rfl
      exact RQ.post (res1 rfl rfl) (.keep .nil) ⟨by rw [putE, if_pos hm, ho], rfl, bo, c', by rw [hp]; exact hc', by rw [hp]⟩
    | some o =>
      have hf : findV T s true = (.pointer (some ⟨o.b, 0, none⟩), 0) := by simp [findV, hm, ho]
      refine CW.region (ef := []) (bk := []) ?_
      refine RL.move rfl rfl rfl rfl ?_
      refine RL.move rfl rfl rfl rfl ?_
      refine RL.callvq (find_any r m1 m2 T s true) Tryz.call63 rfl rfl rfl rfl ?_
      refine RL.move rfl rfl rfl rfl ?_
      refine RL.extract rfl rfl rfl rfl rfl ?_
      refine RL.extract rfl rfl rfl rfl rfl ?_
      refine RL.assign rfl rfl rfl rfl ?_
      refine RL.assign rfl rfl rfl rfl ?_
      refine RL.nil ?_
      refine NQ.seq ?_
      refine CW.only (.cons (k := 0) rfl (.cons (k := 1) rfl (.cons (k := 5) rfl (.cons (k := 8) rfl .nil)))) ?_
      refine CW.seq ?_
      rw [hf]
      refine CW.region (ef := []) (bk := []) ?_
      refine RL.move rfl rfl rfl rfl ?_
      refine RL.nil ?_
      refine NQ.seq ?_
      refine CW.block ?_
      refine CW.seq ?_
      refine CW.region (ef := []) (bk := []) ?_
      refine RL.bin rfl rfl rfl rfl rfl rfl ?_
      refine RL.assign rfl rfl rfl rfl ?_
      refine RL.nil ?_
      refine NQ.seq ?_
      refine CW.condT rfl ((by simp)) ?_
      refine CW.seq ?_
      refine CW.region (ef := []) (bk := []) ?_
      refine RL.assign rfl rfl rfl rfl ?_
      refine RL.nil ?_
      refine NQ.seq ?_
      refine CW.only (.cons (k := 6) rfl .nil) ?_
      refine CW.ret ?_
      refine RQ.block ?_
      refine RQ.ringClose0 (T := T) (by repeat (first | exact Rea.nil | (apply Rea.cons; (solve | (repeat (first | exact Del.here | apply Del.there)))))) ?_
      exact RQ.post (res1 rfl rfl) (.keep .nil) ⟨by rw [putE, if_pos hm, ho], rfl, 0, c, by rw [putT, if_pos hm, ho]; exact hc, by rw [putT, if_pos hm, ho]⟩
  ·
    have hf : findV T s true = (.pointer none, 2) := by simp [findV, hm]
    refine CW.region (ef := []) (bk := []) ?_
    refine RL.move rfl rfl rfl rfl ?_
    refine RL.move rfl rfl rfl rfl ?_
    refine RL.callvq (find_any r m1 m2 T s true) Tryz.call63 rfl rfl rfl rfl ?_
    refine RL.move rfl rfl rfl rfl ?_
    refine RL.extract rfl rfl rfl rfl rfl ?_
    refine RL.extract rfl rfl rfl rfl rfl ?_
    refine RL.assign rfl rfl rfl rfl ?_
    refine RL.assign rfl rfl rfl rfl ?_
    refine RL.nil ?_
    refine NQ.seq ?_
    refine CW.only (.cons (k := 0) rfl (.cons (k := 1) rfl (.cons (k := 5) rfl (.cons (k := 8) rfl .nil)))) ?_
    refine CW.seq ?_
    rw [hf]
    refine CW.region (ef := []) (bk := []) ?_
    refine RL.move rfl rfl rfl rfl ?_
    refine RL.nil ?_
    refine NQ.seq ?_
    refine CW.block ?_
    refine CW.seq ?_
    refine CW.region (ef := []) (bk := []) ?_
    refine RL.bin rfl rfl rfl rfl rfl rfl ?_
    refine RL.assign rfl rfl rfl rfl ?_
    refine RL.nil ?_
    refine NQ.seq ?_
    refine CW.condF rfl ((by simp)) ?_
    refine CW.seq ?_
    refine CW.region (ef := []) (bk := []) ?_
    refine RL.bin rfl rfl rfl rfl rfl rfl ?_
    refine RL.assign rfl rfl rfl rfl ?_
    refine RL.nil ?_
    refine NQ.seq ?_
    refine CW.condF rfl ((by simp)) ?_
    refine CW.seq ?_
    refine CW.region (ef := []) (bk := []) ?_
    refine RL.move rfl rfl rfl rfl ?_
    refine RL.assign rfl rfl rfl rfl ?_
    refine RL.nil ?_
    refine NQ.seq ?_
    refine CW.only (.cons (k := 6) rfl .nil) ?_
    refine CW.ret ?_
    refine RQ.block ?_
    refine RQ.ringClose0 (T := T) (by repeat (first | exact Rea.nil | (apply Rea.cons; (solve | (repeat (first | exact Del.here | apply Del.there)))))) ?_
    exact RQ.post (res1 rfl rfl) (.keep .nil) ⟨by rw [putE, if_neg hm]; rfl, rfl, 0, c, by rw [putT, if_neg hm]; exact hc, by rw [putT, if_neg hm]⟩
end Go.Proofs.YtkkfdoippibfkaaGreat
