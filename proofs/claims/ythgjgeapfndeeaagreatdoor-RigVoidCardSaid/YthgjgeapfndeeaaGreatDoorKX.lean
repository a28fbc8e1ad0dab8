import Derived.Test.YthgjgeapfndeeaaGreatDoorBase
import Derived.Test.YthgjgeapfndeeaaGreatDoorPE
import Derived.Test.YthgjgeapfndeeaaGreatDoorCB
import Derived.Test.YthgjgeapfndeeaaGreatDoorKeyI
set_option linter.unusedVariables false
set_option linter.unusedSimpArgs false
namespace Go.Proofs.YthgjgeapfndeeaaGreatDoor
open Go.PK

structure One where
  s : Nat
  k : List B8
  e : Nat
  g : Int
  b : Nat
def One.cells (o : One) : List Value := bytes o.k ++ [.int .u32 (o.e : Int), .int .i64 o.g]
abbrev oneI (o : One) : It := cel o.b o.cells 562
def pl (s e : Int) : Value := .agg #[.int .i64 s, .int .u32 e]
def goodP (v : Value) : Prop := ∃ s e : Int, v = pl s e
def c1 (T : List One) : List (Value × Value) := T.map fun o => (.int .i64 (o.s : Int), .pointer (some ⟨o.b, 0, none⟩))
theorem pl_inj {a b c d : Int} : pl a b = pl c d ↔ a = c ∧ b = d := by simp [pl]
theorem same_pl (a b c d : Int) : same (pl a b) (pl c d) = (a == c && b == d) := by
  rw [Bool.eq_iff_iff, same_iff, pl_inj]; simp
theorem keyP : KeyT Tryz.prog 706 goodP where
  desc := ⟨_, Tryz.runUnderlying706, fun a b _ _ => .inl (by cases a <;> cases b <;> rfl)⟩
  eq := by
    rintro _ _ ⟨a, b, rfl⟩ ⟨c, d, rfl⟩ w
    rw [same_pl]
    simp [pl, Op.equal, Op.maxDepth, run_equalIn_struct, Program.fieldsOf, Op.eqFields, Go.part, go_sem]
    by_cases h1 : a = c <;> by_cases h2 : b = d <;> simp [h1, h2]
  chk := by
    rintro _ ⟨a, b, rfl⟩ e w
    have : ∀ n, (Instr.checkKey e (n + 2) 706 (.agg #[.int .i64 a, .int .u32 b])).run Tryz.prog w = .ok () w := by
      intro n
      simp [Instr.checkKey, Go.part, go_sem]
    exact this 9998
  bits := by
    rintro _ ⟨a, b, rfl⟩
    simp [pl, Instr.sameBits]
end Go.Proofs.YthgjgeapfndeeaaGreatDoor

namespace Go.Proofs.YthgjgeapfndeeaaGreatDoor
open Go.PK

abbrev ringI (r m1 m2 : Nat) : It := cel r [.map (some m1), .map (some m2)] 554
end Go.Proofs.YthgjgeapfndeeaaGreatDoor

namespace Go.Proofs.YthgjgeapfndeeaaGreatDoor
open Go.PK

def keyE (k : List B8) (e : Nat) : Value := .agg (bytes (deriveK k epochL e)).toArray
theorem one_e {o : One} (h : o.k.length = 32) : o.cells[0 + 32]? = some (.int .u32 (o.e : Int)) := by simp [One.cells, List.getElem?_append, h]
theorem one_g {o : One} (h : o.k.length = 32) : o.cells[0 + 33]? = some (.int .i64 o.g) := by simp [One.cells, List.getElem?_append, h]
theorem one_len {o : One} (h : o.k.length = 32) : o.cells.length = 34 := by simp [One.cells, h]
def delB (o : One) (g' : Int) (s e : Int) : Bool := s == (o.s : Int) && (!(e == (o.e : Int)) || g' == -1)
theorem look_mem {k v : Value} : ∀ {c : List (Value × Value)}, lookV k c = some v → (k, v) ∈ c
  | (a, u) :: c, h => by
    rw [lookV] at h
    split at h
    · next e => subst e; cases h; exact List.Mem.head _
    · exact List.Mem.tail _ (look_mem h)
theorem mem_look {k v : Value} : ∀ {c : List (Value × Value)}, (c.map (·.1)).Nodup → (k, v) ∈ c → lookV k c = some v
  | (a, u) :: c, hn, h => by
    rw [List.map_cons, List.nodup_cons] at hn
    rw [lookV]
    rcases List.mem_cons.1 h with h | h
    · cases h; rw [if_pos rfl]
    · rw [if_neg (fun e => hn.1 (by rw [← e]; exact List.mem_map.2 ⟨_, h, rfl⟩))]; exact mem_look hn.2 h
open Classical in
theorem look_del {k k' : Value} : ∀ {c : List (Value × Value)}, (c.map (·.1)).Nodup → lookV k (delV k' c) = if k = k' then none else lookV k c
  | [], _ => by simp [delV, lookV]
  | (a, u) :: c, hn => by
    rw [List.map_cons, List.nodup_cons] at hn
    rw [delV]
    by_cases h : k' = a
    · subst h
      rw [if_pos rfl]; simp only [lookV]
      by_cases h2 : k = k'
      · subst h2
        rw [if_pos rfl]
        cases hl : lookV k c with
        | none => rfl
        | some v => exact absurd (List.mem_map.2 ⟨_, look_mem hl, rfl⟩) hn.1
      · simp [h2]
    · rw [if_neg h]; simp only [lookV]; rw [look_del hn.2]
      by_cases h2 : k = a
      · subst h2; simp [Ne.symm h]
      · simp [h2]
theorem mem_del {k : Value} {p : Value × Value} {c : List (Value × Value)} (hn : (c.map (·.1)).Nodup) (h : p ∈ delV k c) : p ∈ c ∧ p.1 ≠ k := by
  have h1 := (delV_sublist (k := k) c).subset h
  refine ⟨h1, fun e => ?_⟩
  have h2 : lookV p.1 (delV k c) = some p.2 := mem_look (hn.sublist ((delV_sublist c).map _)) h
  rw [look_del hn, if_pos e] at h2
  cases h2
theorem mapIt_facts {r it : Nat} {good : Value → Prop} {c left : List (Value × Value)} {w : World} (h : (mapIt r it good c left).A w) : (c.map (·.1)).Nodup ∧ (left.map (·.1)).Nodup ∧ (∀ p ∈ left, p ∈ c ∧ good p.1) := by
  obtain ⟨es, clock, since, seen, g1, g2, g3, g4, g5, g6, g7, g8, g9⟩ := h
  have hsub : left.Sublist c := by rw [g9, ← g3]; exact List.filter_sublist.map _
  exact ⟨g4, g4.sublist (hsub.map _), fun p hp => ⟨hsub.subset hp, g5 p (hsub.subset hp)⟩⟩
structure Went (o : One) (g' : Int) (c0 c left : List (Value × Value)) : Prop where
  a : ∀ s e v, (pl s e, v) ∈ c → (pl s e, v) ∈ left ∨ delB o g' s e = false
  b : ∀ s e, delB o g' s e = false → lookV (pl s e) c = lookV (pl s e) c0
theorem Went.fin {o : One} {g' : Int} {c0 c : List (Value × Value)} (h : Went o g' c0 c []) (s e : Int) : lookV (pl s e) c = if delB o g' s e = true then none else lookV (pl s e) c0 := by
  by_cases hd : delB o g' s e = true
  · rw [if_pos hd]
    cases hl : lookV (pl s e) c with
    | none => rfl
    | some v =>
      rcases h.a s e v (look_mem hl) with h | h
      · cases h
      · rw [hd] at h; cases h
  · rw [if_neg hd]; exact h.b s e (by simpa using hd)
theorem mem_erase {α : Type} {l : List α} {j : Nat} {p x : α} (hp : l[j]? = some p) (hx : x ∈ l) : x = p ∨ x ∈ l.eraseIdx j := by
  induction l generalizing j with
  | nil => cases hx
  | cons a l ih =>
    cases j with
    | zero =>
      simp at hp; subst hp
      rcases List.mem_cons.1 hx with h | h
      · exact .inl h
      · exact .inr (by simpa using h)
    | succ j =>
      simp at hp
      rcases List.mem_cons.1 hx with h | h
      · exact .inr (by simp [h])
      · rcases ih hp h with h | h
        · exact .inl h
        · exact .inr (by simp [h])
theorem Went.keep {o : One} {g' : Int} {c0 c left : List (Value × Value)} {j : Nat} {s e : Int} {v : Value} (h : Went o g' c0 c left) (hj : left[j]? = some (pl s e, v)) (hd : delB o g' s e = false) : Went o g' c0 c (left.eraseIdx j) := by
  refine ⟨fun s' e' v' hm => ?_, h.b⟩
  rcases h.a s' e' v' hm with h | h
  · rcases mem_erase hj h with h | h
    · rw [Prod.mk.injEq, pl_inj] at h
      obtain ⟨⟨rfl, rfl⟩, -⟩ := h
      exact .inr hd
    · exact .inl h
  · exact .inr h
theorem Went.cut {o : One} {g' : Int} {c0 c left : List (Value × Value)} {j : Nat} {s e : Int} {v : Value} (h : Went o g' c0 c left) (hn : (c.map (·.1)).Nodup) (hj : left[j]? = some (pl s e, v)) (hd : delB o g' s e = true) : Went o g' c0 (delV (pl s e) c) (left.eraseIdx j) := by
  refine ⟨fun s' e' v' hm => ?_, fun s' e' hd' => ?_⟩
  · obtain ⟨h1, h2⟩ := mem_del hn hm
    rcases h.a s' e' v' h1 with h | h
    · rcases mem_erase hj h with h | h
      · rw [Prod.mk.injEq] at h; exact absurd h.1 h2
      · exact .inl h
    · exact .inr h
  · rw [look_del hn, if_neg (fun (he : pl s' e' = pl s e) => by rw [pl_inj] at he; obtain ⟨rfl, rfl⟩ := he; rw [hd] at hd'; cases hd')]
    exact h.b s' e' hd'
end Go.Proofs.YthgjgeapfndeeaaGreatDoor

namespace Go.Proofs.YthgjgeapfndeeaaGreatDoor
open Go.PK

theorem set_e {o : One} (h : o.k.length = 32) (e' : Nat) : spl o.cells (0 + 32) [.int .u32 (e' : Int)] = ({ o with e := e' } : One).cells := by
  have h' : (bytes o.k).length = 32 := by rw [List.length_map, h]
  rw [spl_eq _ _ _ (by simp [One.cells, h])]
  simp only [One.cells]
  generalize bytes o.k = K at h'
  rw [List.take_left' (by omega), List.drop_append, List.drop_of_length_le (by simp [h']), h']; simp
theorem set_g {o : One} (h : o.k.length = 32) (g' : Int) : spl o.cells (0 + 33) [.int .i64 g'] = ({ o with g := g' } : One).cells := by
  have h' : (bytes o.k).length = 32 := by rw [List.length_map, h]
  rw [spl_eq _ _ _ (by simp [One.cells, h])]
  simp only [One.cells]
  generalize bytes o.k = K at h'
  rw [List.take_append, List.drop_append, List.take_of_length_le (by omega), List.drop_of_length_le (by simp [h']), h']; simp
theorem one_k (o : One) : ∀ (j : Nat) (u : Value), (bytes o.k)[j]? = some u → o.cells[0 + j]? = some u := fun j u h => by
  have hlt := (List.getElem?_eq_some_iff.1 h).1
  rw [Nat.zero_add, One.cells, List.getElem?_append_left hlt]; exact h
end Go.Proofs.YthgjgeapfndeeaaGreatDoor

namespace Go.Proofs.YthgjgeapfndeeaaGreatDoor
open Go.PK
/-! ### A source enters, of which no key is there -/
theorem enter_none (r m1 m2 : Nat) (o : One) (c0 : List (Value × Value)) (e' : Nat) (g' : Int) (hk : o.k.length = 32) (he' : e' < 4294967296) (hno : ∀ p ∈ c0, ∀ s e : Int, p.1 = pl s e → s ≠ (o.s : Int)) :
    Spc Tryz.prog 398 #[.pointer (some ⟨r, 0, none⟩), .int .i64 (o.s : Int), .pointer (some ⟨o.b, 0, none⟩), .int .u32 (e' : Int), .int .i64 g'] [] [ringI r m1 m2, mapI m2 goodP c0, oneI o]
      (fun v I' H' => v = .tuple #[] ∧ I' = [] ∧ H' = [mapI m2 goodP (setV (pl (o.s : Int) (e' : Int)) (keyE o.k e') c0), ringI r m1 m2, oneI { o with e := e', g := g' }]) := by
  have h1 := one_e hk
  have h2 := one_g hk
  have h3 := one_len hk
  refine Spc.enter Tryz.func398 rfl rfl rfl (fun w0 hw0 => ?_)
  refine CW.seq (CW.seq (CW.region (ef := [4]) (bk := [4]) (RL.p rfl (RL.p rfl (RL.fieldAddr fa_554_1 rfl rfl rfl rfl (RL.loadq Tryz.isAgg552 rfl rfl rfl rfl ?_))))))
  refine RL.range Tryz.runUnderlying552 rfl rfl rfl rfl rfl rfl (by repeat (first | exact Pick.nil | apply Pick.take | apply Pick.leave)) (fun it => ?_)
  refine RL.nil (NQ.seq (CW.block ?_))
  refine CW.loop (γ := List (Value × Value)) (fun _ => True) (fun _ => [(0, .pointer (some ⟨r, 0, none⟩)), (1, .int .i64 (o.s : Int)), (2, .pointer (some ⟨o.b, 0, none⟩)), (3, .int .u32 (e' : Int)), (4, .int .i64 g'), (15, .pointer (some ⟨it, 0, none⟩))]) (fun _ => [])
    (fun left => [mapIt m2 it goodP c0 left, ringI r m1 m2, oneI o]) (fun left => left.length) c0 trivial (.cons rfl (.cons rfl (.cons rfl (.cons rfl (.cons rfl (.cons rfl .nil)))))) (fun w h => h.rea (fun _ h => h) (by repeat (first | exact Rea.nil | (apply Rea.cons; (solve | (repeat (first | exact Del.here | apply Del.there))))))) ?_
  intro left _
  refine CW.fact (p := ∀ p ∈ left, p ∈ c0 ∧ goodP p.1) (fun w hC => (mapIt_facts (hC.s.h _ (List.Mem.head _))).2.2) (fun hn3 => ?_)
  refine CW.seq (CW.region (ef := [0]) (bk := [0]) ?_)
  refine RL.nextC rfl rfl rfl rfl rfl rfl (.take (Pick.none _)) (fun hl => ?_) (fun q p hp => ?_)
  · subst hl
    refine RL.p rfl (RL.nil (NQ.seq (CW.seq (CW.condF rfl ((by simp)) ?_))))
    refine CW.exit (XQ.seq (XQ.seq (XQ.hit (NQ.seq (CW.seq (CW.unrange (CW.region (ef := [6, 9]) (bk := [6, 9]) (RL.p rfl (RL.p rfl (RL.p rfl (RL.p rfl (RL.p rfl (RL.fieldAddr fa_562_1 rfl rfl rfl rfl ?_)))))))))))))
    refine RL.storeX (cs' := ({ o with e := e' } : One).cells) (vs := [_]) (set_e hk e') Tryz.sizeOf90 rfl rfl rfl rfl rfl rfl rfl rfl (by repeat (first | exact Upd.here | apply Upd.there)) (by rw [h3]; simp) ?_
    refine RL.p rfl (RL.fieldAddr fa_562_2 rfl rfl rfl rfl (RL.storeX (cs' := ({ o with e := e', g := g' } : One).cells) (vs := [_]) (set_g (o := { o with e := e' }) hk g') Tryz.sizeOf3 rfl rfl rfl rfl rfl rfl rfl rfl (by repeat (first | exact Upd.here | apply Upd.there)) (by rw [one_len (o := { o with e := e' }) hk]; simp) ?_))
    refine RL.nil (NQ.seq (CW.ok [0, 1, 2, 3] rfl (CW.regionD (Sq.of [0, 1, 2, 3, 4, 5, 6, 7, 8, 9, 10, 11, 12, 13, 14]) [14] [14] [0, 1, 2, 4, 5, 6, 7, 8, 9, 11, 12] mixed (by kernel_rfl) ?_)))
    refine RL.p rfl (RL.p rfl (RL.fieldAddr fa_554_1 rfl rfl rfl rfl (RL.loadq Tryz.isAgg552 rfl rfl rfl rfl ?_)))
    refine RL.p rfl (RL.p rfl (RL.buildS [_, _] Tryz.zeroValue706 pl_706 rfl rfl rfl rfl rfl (RL.p rfl (RL.p rfl (RL.fieldAddr fa_562_0 rfl rfl rfl rfl (RL.loadA Tryz.isAgg32 Tryz.sizeOf32 rfl rfl rfl rfl (vs := bytes o.k) (Rds.cel (by repeat (first | exact List.Mem.head _ | apply List.Mem.tail)) (one_k { o with e := e', g := g' })) (by rw [List.length_map, hk]) ?_))))))
    refine RL.p rfl (RL.conv Tryz.runUnderlying90 Tryz.runUnderlying33 rfl rfl rfl rfl (RL.callvq (derive_w o.k hk epochL (by decide) e' he') Tryz.call427 rfl rfl rfl rfl ?_))
    refine RL.mapUpdate keyP Tryz.runUnderlying552 rfl rfl rfl rfl rfl rfl rfl ⟨(o.s : Int), (e' : Int), rfl⟩ (by repeat (first | exact Upd.here | apply Upd.there)) ?_
    refine RL.nil ?_
    exact RQ.post (res0 rfl) (.keep (.keep (.keep .nil))) ⟨rfl, rfl, rfl⟩
  ·
    obtain ⟨hm0, ps, pe, hpe⟩ := hn3 p (List.mem_of_getElem? hp)
    have hps := hno p hm0 ps pe hpe
    obtain ⟨pk, pv⟩ := p
    dsimp only at hpe
    subst hpe
    refine RL.p rfl (RL.nil (NQ.seq (CW.seq (CW.condT rfl ((by simp)) ?_))))
    refine CW.skip (NQ.seq (CW.block (CW.seq (CW.region (ef := [2, 3]) (bk := [3]) (RL.entry rfl rfl rfl rfl (List.Mem.head _) (RL.p rfl (RL.alloc Tryz.zeroValue706 rfl rfl rfl rfl rfl ?_)))))))
    intro b1
    refine RL.store (vs := [_, _]) Tryz.sizeOf706 rfl rfl rfl rfl rfl rfl rfl rfl rfl (by repeat (first | exact Upd.here | apply Upd.there)) ?_
    refine RL.nil (NQ.seq (CW.seq (CW.regionD (Sq.of [0, 1, 2, 3, 4, 5, 6, 7, 8, 9, 10, 11, 12, 13, 14, 15, 16]) [] [] [0, 2, 3, 4, 5, 7, 8, 9, 11, 12, 13, 14, 15, 16] mixed (by kernel_rfl) ?_)))
    refine RL.fieldAddr fa_706_0 rfl rfl rfl rfl (RL.loadq Tryz.isAgg3 rfl rfl rfl rfl ?_)
    refine RL.p rfl (RL.p rfl (RL.p rfl ?_))
    refine RL.part (d := 24) rfl (fun ha => ?_) (fun ha => ?_)
    · exfalso
      exact hps (by simpa using ha)
    ·
      refine RL.p rfl (RL.p rfl (RL.p rfl (RL.p rfl (RL.p rfl (RL.p rfl (RL.p rfl (RL.p rfl (RL.p rfl (RL.p rfl (RL.p rfl (RL.p rfl (RL.nil (NQ.seq ?_)))))))))))))
      refine CW.ok [0, 1, 2, 3, 4, 10, 15, 36] rfl (CW.condF rfl rfl (CW.skip (NQ.block ?_)))
      refine NQ.round (g := left) (left.eraseIdx q) trivial (by show (left.eraseIdx q).length < left.length; rw [List.length_eraseIdx_of_lt (List.getElem?_eq_some_iff.1 hp).1]; have := (List.getElem?_eq_some_iff.1 hp).1; omega) (.cons rfl (.cons rfl (.cons rfl (.cons rfl (.cons rfl (.cons rfl .nil)))))) (fun w h => (h.rea (H' := [mapCt m2 it goodP c0 (left.eraseIdx q) (pl ps pe, pv), ringI r m1 m2, oneI o]) (fun _ h => h) (by repeat (first | exact Rea.nil | (apply Rea.cons; (solve | (repeat (first | exact Del.here | apply Del.there))))))).uncur)
end Go.Proofs.YthgjgeapfndeeaaGreatDoor
