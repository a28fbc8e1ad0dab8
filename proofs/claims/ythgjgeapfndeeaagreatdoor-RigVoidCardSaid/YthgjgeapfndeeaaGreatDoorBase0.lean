import Derived.Test.YthgjgeapfndeeaaGreatDoorPD
import Derived.Test.YthgjgeapfndeeaaGreatDoorFacts
set_option linter.unusedVariables false
set_option linter.unusedSimpArgs false
namespace Go.Proofs.YthgjgeapfndeeaaGreatDoor
open Go.PK
abbrev ints (l : List Int) : List Value := l.map (Value.int .i64)
theorem one32 : ∀ a, (U32 a).oneCell' = true := fun _ => rfl
theorem one8 : ∀ a, (U8 a).oneCell' = true := fun _ => rfl
abbrev bytes (m : List B8) : List Value := m.map U8
abbrev words (l : List B32) : List Value := l.map U32

theorem bytes_part (l : List B8) (lo k : Nat) : ((bytes l).drop (lo * 1)).take (k * 1) = bytes ((l.drop lo).take k) := by simp [List.map_take, List.map_drop]
theorem Spc.fact {P : Program} {f : FuncId} {args : Array Value} {I H : List It} {R : Value → List It → List It → Prop} {p : Prop} (hp : ∀ w, Sat I H w → p) (h : p → Spc P f args I H R) : Spc P f args I H R := fun w hw => h (hp w hw) w hw
theorem own_cap {ob : Option Nat} {cap sz n : Nat} {e : TypeId} {xs : List Value} {w : World} (h : (own ob cap e sz n xs).A w) : n ≤ cap := by
  cases ob with
  | none => obtain ⟨-, h1, h2⟩ := h; omega
  | some b => exact h.2.1
/-- A slice that is nil is one's own. -/
theorem Cls.ownNone {e : TypeId} {sz : Nat} {w0 w : World} {S : List Nat} {I H : List It} (hw : Cls w0 S I H w) : Cls w0 S I (own none 0 e sz 0 [] :: H) w := hw.more (Keeps.refl _ w) ⟨by simp, rfl, rfl⟩ (by simp [own]) (by simp [own])
theorem CW.ownNone {e : TypeId} (sz : Nat) {P : Program} {Q : Exit → Act → World → Prop} {N : Fm} {E : Env} {w0 : World} {S : List Nat} {I H : List It} {cc : Code} (h : CW P cc Q N E w0 S I (own none 0 e sz 0 [] :: H)) : CW P cc Q N E w0 S I H := fun a w ha hw => h a w ha (Cls.ownNone hw)
theorem RQ.ownNone {e : TypeId} (sz : Nat) {Q : Exit → Act → World → Prop} {N : Fm} {E : Env} {w0 : World} {S : List Nat} {I H : List It} (h : RQ Q N E w0 S I (own none 0 e sz 0 [] :: H)) : RQ Q N E w0 S I H := fun a w ha hw => h a w ha (Cls.ownNone hw)
/-- A thing that is a part of another one. -/
structure Lies (x y : It) : Prop where
  A : ∀ w, x.A w → y.A w
  bs : ∀ b ∈ y.bs, b ∈ x.bs
theorem Lies.refl (x : It) : Lies x x := ⟨fun _ h => h, fun _ h => h⟩
theorem Lies.trans {x y z : It} (h : Lies x y) (g : Lies y z) : Lies x z := ⟨fun w a => g.A w (h.A w a), fun b hb => h.bs b (g.bs b hb)⟩
theorem Lend.sub {x y : It} {I F J : List It} (hs : Lies x y) (hm : x ∈ I) (h : Lend I F J) : Lend I F (y :: J) :=
  .of (fun w hw => hs.A w (hw.i x hm)) (fun c hc => .inl (mem_bss.2 ⟨x, hm, hs.bs c hc⟩)) h
theorem Lies.part {p : Option Addr} {c lo k : Nat} {m : List B8} (hk : lo + k ≤ m.length) (hc : m.length ≤ c) :
    Lies (sls p 1 m.length (bytes m)) (sls (if c = lo then p else p.map (·.add (lo * 1))) 1 ((m.drop lo).take k).length (bytes ((m.drop lo).take k))) := by
  have e : ((m.drop lo).take k).length = k := by rw [List.length_take, List.length_drop]; omega
  rw [e, ← bytes_part]
  exact ⟨fun w h => sls_sub h hk hc, fun b hb => bs_sub hk b hb⟩
theorem RdsN.told {I : List It} {b off n : Nat} {cs vs : List Value} {T : TypeId} (hm : cel b cs T ∈ I) (hv : ∀ j u, vs[j]? = some u → cs[off + j]? = some u) (hl : vs.length = n) : RdsN I ⟨b, off, none⟩ n vs := ⟨fun _ => Rds.celI hm hv, hl⟩
theorem own_none {cap sz n : Nat} {e : TypeId} {xs : List Value} {w : World} (h : (own none cap e sz n xs).A w) : n = 0 := h.2.1
theorem CW.genI {P : Program} {Q : Exit → Act → World → Prop} {N : Fm} {E : Env} {w0 : World} {S : List Nat} {I H : List It} {cc : Code} (h : ∀ J, (∀ x ∈ I, x ∈ J) → CW P cc Q N E w0 S J H) : CW P cc Q N E w0 S I H := h I (fun _ h => h)

/-- Bytes of one's own. -/
def OwnB (l : List B8) : Value → List It → List It → Prop := fun v I' H' => ∃ ob cap, v = slO ob l.length cap ∧ I' = [] ∧ H' = [own ob cap 5 1 l.length (bytes l)] ∧ (l.length = 0 ∨ ob.isSome = true)

/-- The like, with room for them. -/
def OwnC (l : List B8) : Value → List It → List It → Prop := fun v I' H' => ∃ ob cap, v = slO ob l.length cap ∧ I' = [] ∧ H' = [own ob cap 5 1 l.length (bytes l)] ∧ l.length ≤ cap ∧ (l.length = 0 ∨ ob.isSome = true)
theorem OwnB.cap {P : Program} {f : FuncId} {args : Array Value} {I H : List It} {l : List B8} (h : Spc P f args I H (OwnB l)) : Spc P f args I H (OwnC l) := fun w hw =>
  (h w hw).mono fun e w' ⟨v, I', H', he, ⟨ob, cap, h1, h2, h3, h4⟩, hk, hs, ho⟩ =>
    ⟨v, I', H', he, ⟨ob, cap, h1, h2, h3, own_cap (hs.h (own ob cap 5 1 l.length (bytes l)) (by rw [h3]; exact List.Mem.head _)), h4⟩, hk, hs, ho⟩

end Go.Proofs.YthgjgeapfndeeaaGreatDoor
