import Derived.Test.YthndhipjfdgdfaaGreatDoorPD
import Derived.Test.YthndhipjfdgdfaaGreatDoorFacts
import Derived.Test.YthndhipjfdgdfaaGreatDoorPC
set_option linter.unusedVariables false
set_option linter.unusedSimpArgs false
namespace Go.Proofs.YthndhipjfdgdfaaGreatDoor
open Go.PK
abbrev ints (l : List Int) : List Value := l.map (Value.int .i64)
theorem one8 : ∀ a, (U8 a).oneCell' = true := fun _ => rfl
abbrev bytes (m : List B8) : List Value := m.map U8
theorem bytes_part (l : List B8) (lo k : Nat) : ((bytes l).drop (lo * 1)).take (k * 1) = bytes ((l.drop lo).take k) := by simp [List.map_take, List.map_drop]
theorem Spc.fact {P : Program} {f : FuncId} {args : Array Value} {I H : List It} {R : Value → List It → List It → Prop} {p : Prop} (hp : ∀ w, Sat I H w → p) (h : p → Spc P f args I H R) : Spc P f args I H R := fun w hw => h (hp w hw) w hw
theorem own_cap {ob : Option Nat} {cap sz n : Nat} {e : TypeId} {xs : List Value} {w : World} (h : (own ob cap e sz n xs).A w) : n ≤ cap := by
  cases ob with
  | none => obtain ⟨-, h1, h2⟩ := h; omega
  | some b => exact h.2.1
/-- A slice that is nil is one's own. -/
theorem Cls.ownNone {e : TypeId} {sz : Nat} {w0 w : World} {S : List Nat} {I H : List It} (hw : Cls w0 S I H w) : Cls w0 S I (own none 0 e sz 0 [] :: H) w := hw.more (Keeps.refl _ w) ⟨by simp, rfl, rfl⟩ (by simp [own]) (by simp [own])
theorem CW.ownNone {e : TypeId} (sz : Nat) {P : Program} {Q : Exit → Act → World → Prop} {N : Fm} {E : Env} {w0 : World} {S : List Nat} {I H : List It} {cc : Code} (h : CW P cc Q N E w0 S I (own none 0 e sz 0 [] :: H)) : CW P cc Q N E w0 S I H := fun a w ha hw => h a w ha (Cls.ownNone hw)
theorem RQ.ownNone {e : TypeId} (sz : Nat) {Q : Exit → Act → World → Prop} {N : Fm} {E : Env} {w0 : World} {S : List Nat} {I H : List It} (h : RQ Q N E w0 S I (own none 0 e sz 0 [] :: H)) : RQ Q N E w0 S I H := fun a w ha hw => h a w ha (Cls.ownNone hw)
/-- A thing that is a part of another one. -/
structure Lies (x y : It) : Prop where
  A : ∀ w, x.A w → y.A w
  bs : ∀ b ∈ y.bs, b ∈ x.bs
theorem Lies.refl (x : It) : Lies x x := ⟨fun _ h => h, fun _ h => h⟩
theorem Lies.trans {x y z : It} (h : Lies x y) (g : Lies y z) : Lies x z := ⟨fun w a => g.A w (h.A w a), fun b hb => h.bs b (g.bs b hb)⟩
theorem Lend.sub {x y : It} {I F J : List It} (hs : Lies x y) (hm : x ∈ I) (h : Lend I F J) : Lend I F (y :: J) :=
  .of (fun w hw => hs.A w (hw.i x hm)) (fun c hc => .inl (mem_bss.2 ⟨x, hm, hs.bs c hc⟩)) h
theorem Lies.part {p : Option Addr} {c lo k : Nat} {m : List B8} (hk : lo + k ≤ m.length) (hc : m.length ≤ c) :
    Lies (sls p 1 m.length (bytes m)) (sls (if c = lo then p else p.map (·.add (lo * 1))) 1 ((m.drop lo).take k).length (bytes ((m.drop lo).take k))) := by
  have e : ((m.drop lo).take k).length = k := by rw [List.length_take, List.length_drop]; omega
  rw [e, ← bytes_part]
  exact ⟨fun w h => sls_sub h hk hc, fun b hb => bs_sub hk b hb⟩
theorem RdsN.told {I : List It} {b off n : Nat} {cs vs : List Value} {T : TypeId} (hm : cel b cs T ∈ I) (hv : ∀ j u, vs[j]? = some u → cs[off + j]? = some u) (hl : vs.length = n) : RdsN I ⟨b, off, none⟩ n vs := ⟨fun _ => Rds.celI hm hv, hl⟩
theorem RQ.rea {Q : Exit → Act → World → Prop} {N : Fm} {E : Env} {w0 : World} {S : List Nat} {I H : List It} {I' H' : List It} (hi : ∀ x ∈ I', x ∈ I) (r : Rea H H') (h : RQ Q N E w0 S I' H') : RQ Q N E w0 S I H := fun a w ha hw => h a w ha (hw.rea hi r)
theorem Lend.ownI {I F J : List It} {ob : Option Nat} {cap sz nn : Nat} {e : TypeId} {xs : List Value} (hm : own ob cap e sz nn xs ∈ I) (h : Lend I F J) : Lend I F (sls (ob.map fun b => ⟨b, 0, none⟩) sz nn xs :: J) :=
  .of (fun _ hw => own_sls (hw.i _ hm)) (fun c hc => .inl (mem_bss.2 ⟨_, hm, by by_cases hn : nn = 0 <;> cases ob <;> simp_all [sls, own]⟩)) h
theorem CW.genI {P : Program} {Q : Exit → Act → World → Prop} {N : Fm} {E : Env} {w0 : World} {S : List Nat} {I H : List It} {cc : Code} (h : ∀ J, (∀ x ∈ I, x ∈ J) → CW P cc Q N E w0 S J H) : CW P cc Q N E w0 S I H := h I (fun _ h => h)

/-- Bytes of one's own. -/
def OwnB (l : List B8) : Value → List It → List It → Prop := fun v I' H' => ∃ ob cap, v = slO ob l.length cap ∧ I' = [] ∧ H' = [own ob cap 5 1 l.length (bytes l)] ∧ (l.length = 0 ∨ ob.isSome = true)

/-- The like, with room for them. -/
def OwnC (l : List B8) : Value → List It → List It → Prop := fun v I' H' => ∃ ob cap, v = slO ob l.length cap ∧ I' = [] ∧ H' = [own ob cap 5 1 l.length (bytes l)] ∧ l.length ≤ cap ∧ (l.length = 0 ∨ ob.isSome = true)
theorem OwnB.cap {P : Program} {f : FuncId} {args : Array Value} {I H : List It} {l : List B8} (h : Spc P f args I H (OwnB l)) : Spc P f args I H (OwnC l) := fun w hw =>
  (h w hw).mono fun e w' ⟨v, I', H', he, ⟨ob, cap, h1, h2, h3, h4⟩, hk, hs, ho⟩ =>
    ⟨v, I', H', he, ⟨ob, cap, h1, h2, h3, own_cap (hs.h (own ob cap 5 1 l.length (bytes l)) (by rw [h3]; exact List.Mem.head _)), h4⟩, hk, hs, ho⟩

end Go.Proofs.YthndhipjfdgdfaaGreatDoor

namespace Go.Proofs.YthndhipjfdgdfaaGreatDoor
open Go.PK
/-! ### Integers as keys of a map -/
def goodI (v : Value) : Prop := ∃ n, v = .int .i64 n
theorem keyI : KeyT Tryz.prog 3 goodI where
  desc := ⟨_, Tryz.runUnderlying3, fun a b ha hb => by
    obtain ⟨m, rfl⟩ := ha; obtain ⟨n, rfl⟩ := hb
    by_cases h : m = n <;> simp [Instr.sameNow, same, h]⟩
  eq := by
    rintro _ _ ⟨a, rfl⟩ ⟨c, rfl⟩ w
    by_cases h : a = c <;> simp [Op.equal, Op.maxDepth, same, h, Go.part, go_sem]
  chk := by
    rintro _ ⟨a, rfl⟩ e w
    have : ∀ n, (Instr.checkKey e (n + 2) 3 (.int .i64 a)).run Tryz.prog w = .ok () w := by
      intro n
      simp [Instr.checkKey, Go.part, go_sem]
    exact this 9998
  bits := by
    rintro _ ⟨a, rfl⟩
    simp [Instr.sameBits]
theorem setV_absent {k v : Value} : ∀ {c : List (Value × Value)}, lookV k c = none → setV k v c = c ++ [(k, v)]
  | [], _ => rfl
  | (a, u) :: c, h => by
    rw [lookV] at h
    split at h
    · cases h
    · next hn => rw [setV, if_neg hn, setV_absent h]; rfl
end Go.Proofs.YthndhipjfdgdfaaGreatDoor

namespace Go.Proofs.YthndhipjfdgdfaaGreatDoor
open Go.PK
/-- Bytes of one's own, so many. -/
def OwnN (n : Nat) (l : List B8) : Value → List It → List It → Prop := fun v I' H' => ∃ ob cap, v = slO ob n cap ∧ I' = [] ∧ H' = [own ob cap 5 1 n (bytes l)] ∧ (n = 0 ∨ ob.isSome = true)
theorem OwnB.n {P : Program} {f : FuncId} {args : Array Value} {I H : List It} {l : List B8} {n : Nat} (hn : l.length = n) (h : Spc P f args I H (OwnB l)) : Spc P f args I H (OwnN n l) := by subst hn; exact h
/-- One's own slice, lent as the same written otherwise. -/
theorem Lend.ownE {I F J : List It} {ob : Option Nat} {cap sz nn n' : Nat} {e : TypeId} {xs xs' : List Value} (hm : own ob cap e sz nn xs ∈ F) (hn : nn = n') (hx : xs = xs') (h : Lend I F J) : Lend I F (sls (ob.map fun b => ⟨b, 0, none⟩) sz n' xs' :: J) := by
  subst hn; subst hx; exact Lend.own hm h
end Go.Proofs.YthndhipjfdgdfaaGreatDoor

namespace Go.Proofs.YthndhipjfdgdfaaGreatDoor
open Go.PK

end Go.Proofs.YthndhipjfdgdfaaGreatDoor

/- The numbers of bytes, the highest first. -/
namespace Go.Proofs.YthndhipjfdgdfaaGreatDoor
open Go.PK

end Go.Proofs.YthndhipjfdgdfaaGreatDoor
