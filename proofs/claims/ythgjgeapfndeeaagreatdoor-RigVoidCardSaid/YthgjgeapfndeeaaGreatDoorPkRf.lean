/-
  PK: ranges over functions.
-/
import Derived.Test.YthgjgeapfndeeaaGreatDoorPE
set_option linter.unusedVariables false
set_option linter.unusedSimpArgs false
namespace Go.PK
/-- What a round of a loop over a function does. -/
def YSpc (P : Program) (l : Nat) (args : List Value) (H : List It) (R : Value → List It → Prop) : Prop :=
  ∀ w, Sat [] H w → ∃ fn tmps asg body, (Instr.yield l args.toArray).run P w = .ok (.round l fn tmps asg body) w ∧
    RoundIn Fence.wide 0 P l fn tmps asg body w (fun e w' => ∃ v H', e = .returned v ∧ R v H' ∧ Keeps (bss H) w w' ∧ Sat [] H' w' ∧ (∀ b ∈ bss H', b ∈ bss H ∨ w.heap.size ≤ b))
/-- A function that hands things on, one by one: 'X': one's own things after so many rounds, 'Z': where a round has ended the loop. -/
def Iter (P : Program) (gf : FuncId) (first cap : List Value) (C : List It) (xs : List (List Value)) : Prop :=
  ∀ (l : Nat) (X Z : Nat → List It) (p : Nat → Bool), (∀ k a, xs[k]? = some a → YSpc P l a (X k) (fun v H' => v = .bool (p k) ∧ H' = if p k = true then X (k + 1) else Z k)) →
    Spc P gf (first ++ [Value.func (.yield l) #[] #[]] ++ cap).toArray C (X 0) (fun v I' H' => v = .tuple #[] ∧ I' = [] ∧ ((H' = X xs.length ∧ ∀ k, k < xs.length → p k = true) ∨ ∃ k, k < xs.length ∧ p k = false ∧ H' = Z k))
section
variable {P : Program} {L : List Oper} {ef bk : List Nat} {tq : Tq} {Q : Exit → Act → World → Prop} {N : Fm} {E : Env} {w0 : World} {S : List Nat} {I H : List It} {i : Nat} {l : Sq}
variable {d : Nat} {y : Operand} {ty : TypeId} {pos : String} {af : Array Edge} {g : Option (Nat × Bool)}
theorem exec_callY {ρ : Operand → Value} {dst : Option Tmp} {lp : Nat} {xs : Array Operand} {ats : Array TypeId} (hy : ρ y = .func (.yield lp) #[] #[]) :
    execOp ρ ⟨dst, .call ⟨.value y, xs, ats⟩, ty, pos, af, g⟩ = Instr.yield lp (#[] ++ xs.map ρ) := by
  simp only [execOp, resolve, hy]; rfl
theorem RL.callY {lp : Nat} {args : List Value} {A B : List It} {R : Value → List It → Prop} {xs : Array Operand} {ats : Array TypeId} (hfn : YSpc P lp args A R)
    (ho : nth L i = some ⟨some d, .call ⟨.value y, xs, ats⟩, ty, pos, af, g⟩) (hw : wants L E ⟨some d, .call ⟨.value y, xs, ats⟩, ty, pos, af, g⟩ = true)
    (hN : Nat.blt d N.n = true) (hi : ef.contains i = true) (hb : bk.contains i = true) (hy : E.ev y = some (.func (.yield lp) #[] #[])) (hx : evs E xs.toList = some args) (hp : Pick H A B)
    (h : ∀ v H', R v H' → RL P L ef bk tq Q l N ((d, v) :: E) w0 S I (H' ++ B)) : RL P L ef bk tq Q (.cons i l) N E w0 S I H := by
  refine RL.eff ho hw hi rfl hN (fun a w ha hC => ?_)
  unfold does
  rw [exec_callY (ha.ev hy)]
  have hargs : (#[] ++ xs.map a.eval) = args.toArray := by
    have := ha.evs hx
    apply Array.toList_inj.1
    simpa using this
  rw [hargs]
  obtain ⟨fn, tmps, asg, body, e1, hr⟩ := hfn w (hC.s.part hp Lend.nil).1
  rw [e1]
  refine RoundIn.mono hr ?_
  rintro e w' ⟨v, H', he, hR, hk, hs, hn⟩
  exact ⟨v, he, I, H' ++ B, hC.call hp Lend.nil hk hs hn (by simp), fun x hx => hx, fun hbk w2 hw2 => by (rw [hb] at hbk; cases hbk), h v H' hR⟩
end
/-! ### The statement -/
/-- The loop's record. -/
def recI (l : Nat) (r : Loop) (st : LoopState) (pd : Option Code) : It := blk l (.loop { r with state := st, pending := pd })
section
variable {P : Program} {Q : Exit → Act → World → Prop} {N : Fm} {E : Env} {w0 : World} {S : List Nat} {I H : List It}
theorem Keeps.put (w : World) (b : Nat) (o : Obj) : Keeps [b] w (w.putObj b o) :=
  ⟨rfl, rfl, rfl, by simp, fun c _ hc => World.putObj_heap_other (by simpa using hc), Nat.le_refl _⟩
theorem Cls.put {w : World} {b : Nat} {o o' : Obj} (h : Cls w0 S I (blk b o :: H) w) : Cls w0 S I (blk b o' :: H) (w.putObj b o') := by
  have hA : w.heap[b]? = some o := h.s.h (blk b o) (List.Mem.head _)
  exact h.upd (x := blk b o) (x' := blk b o') .here (Keeps.put w b o') rfl (World.putObj_heap_same (Array.getElem?_eq_some_iff.1 hA).1)
theorem Lend.wide {I F J : List It} {x : It} (h : Lend I F J) : Lend I (x :: F) J := by
  induction h with
  | nil => exact .nil
  | inI hx _ ih => exact .inI hx ih
  | inH hx _ ih => exact .inH (List.mem_cons_of_mem _ hx) ih
  | of hx hb _ ih => exact .of (fun w hw => hx w (hw.les (fun _ h => h) (.drop (Les.refl _)))) (fun b h => (hb b h).imp id (fun h => by rw [bss_cons]; exact List.mem_append_right _ h)) ih
theorem Pick.all : ∀ H : List It, Pick H H []
  | [] => .nil
  | _ :: H => .take (Pick.all H)
/-- What a round comes to. -/
def RdPost (w0 : World) (S : List Nat) (R : Value → List It → Prop) : Ending → World → Prop := fun e w' => ∃ v H', e = .returned v ∧ R v H' ∧ Keeps S w0 w' ∧ Sat [] H' w' ∧ (∀ b ∈ bss H', b ∈ S ∨ w0.heap.size ≤ b)
def RdBegin (P : Program) (l : Nat) (body : Code) (Q : Exit → Act → World → Prop) : Exit → Act → World → Prop :=
  Exit.then (fun a₁ w₁ => ∃ w₂, (Instr.beginRound l).run P w₁ = .ok () w₂ ∧ body.wpIn (FnR (some l)) 0 P Q a₁ w₂) (fun _ _ _ => False)
theorem NQ.rdBegin {n l : Nat} {ds : List Deferred} {body : Code} {r : Loop} {pd : Option Code} {H' : List It} (h : CW P body Q ⟨n, ds, some l⟩ E w0 S I H') (hu : Upd H (recI l r .ready pd) (recI l r .busy pd) H' := by repeat (first | exact Upd.here | apply Upd.there)) : NQ (RdBegin P l body Q) ⟨n, ds, some l⟩ E w0 S I H := fun a w ha hw =>
  have hA : w.heap[l]? = _ := hw.s.h _ hu.mem
  ⟨_, run_beginRound (r := { r with state := .ready, pending := pd }) hA rfl, h a _ ha (hw.upd hu (Keeps.put w l _) rfl (World.putObj_heap_same (Array.getElem?_eq_some_iff.1 hA).1))⟩
theorem RdPost.of {R : Value → List It → Prop} {v : Value} {w : World} (h : Cls w0 S [] H w) {H' : List It} (hl : Les H H') (hR : R v H') : RdPost w0 S R (.returned v) w :=
  have h' := h.les (fun _ h => h) hl
  ⟨v, H', rfl, hR, h'.k, h'.s, fun b hb => by
    rcases Nat.lt_or_ge b w0.heap.size with hlt | hge
    · exact .inl (h'.own b hb hlt)
    · exact .inr hge⟩
theorem NQ.rdEnd {l : Nat} {r : Loop} {pd : Option Code} {R : Value → List It → Prop} {H' : List It} (hr : Rea H (recI l r .busy pd :: H')) (hR : R (.bool true) (recI l r .ready none :: H')) : NQ (roundPost P l (RdPost w0 S R)) N E w0 S [] H := fun _ w _ hw =>
  have hw := hw.rea (fun _ h => h) hr
  ⟨_, _, run_endRound (r := { r with state := .busy, pending := pd }) none (hw.s.h (recI l r .busy pd) (List.Mem.head _)), RdPost.of (hw.put (o' := .loop { r with state := .ready, pending := none })) (Les.refl _) hR⟩
theorem RQ.rdRet {l : Nat} {r : Loop} {pd : Option Code} {R : Value → List It → Prop} {H' : List It} (hr : Rea H (recI l r .busy pd :: H')) (hR : R (.bool false) (recI l r .done (some .ret) :: H')) : RQ (roundPost P l (RdPost w0 S R)) N E w0 S [] H := fun _ w _ hw =>
  have hw := hw.rea (fun _ h => h) hr
  ⟨_, _, run_endRound (r := { r with state := .busy, pending := pd }) (some .ret) (hw.s.h (recI l r .busy pd) (List.Mem.head _)), RdPost.of (hw.put (o' := .loop { r with state := .done, pending := some .ret })) (Les.refl _) hR⟩
def zipE : List Nat → List Value → Env → Env
  | p :: ps, v :: vs, E => zipE ps vs ((p, v) :: E)
  | _, _, E => E
theorem zipE_ag {N : Fm} : ∀ (ps : List Nat) (vs : List Value) (E : Env) (a : Act), (∀ p ∈ ps, p < N.n) → Ag N a E → Ag N { a with tmps := (ps.zip vs).foldl (fun t (x : Nat × Value) => t.setIfInBounds x.1 x.2) a.tmps } (zipE ps vs E)
  | [], _, _, _, _, h => h
  | _ :: _, [], _, _, _, h => h
  | p :: ps, v :: vs, E, a, hp, h => by
    have h1 : Ag N (a.put (some p) v) ((p, v) :: E) := h.put (by simpa using hp p (by simp)) v
    exact zipE_ag ps vs _ (a.put (some p) v) (fun q hq => hp q (by simp [hq])) h1
/-- A loop over a function whose rounds end it, if at all, by a return. -/
theorem CW.rangeFunc {n : Nat} {g : Operand} {ps : Array Tmp} {asg body : Code} {gf : FuncId} {first cap : List Value} {B C : List It} {xs : List (List Value)} {X Z : Nat → List It} {p : Nat → Bool}
    (hit : Iter P gf first cap C xs) (hg : E.ev g = some (.func (.func gf) first.toArray cap.toArray)) (hrun : ∀ args w, (callFunc gf args).run P w = .ok (.enter gf args) w)
    (hps : ∀ a ∈ xs, a.length = ps.size) (hpn : ∀ q ∈ ps.toList, q < n) (hp : Pick H (X 0) B) (hl : Lend I B C)
    (hround : ∀ l r k a w1, xs[k]? = some a → CW P asg (RdBegin P l body (roundPost P l (RdPost w1 (bss (recI l r .ready none :: X k)) (fun v H' => v = .bool (p k) ∧ H' = if p k = true then recI l r .ready none :: X (k + 1) else recI l r .done (some .ret) :: Z k)))) ⟨n, [], some l⟩ (zipE ps.toList a E) w1 (bss (recI l r .ready none :: X k)) [] (recI l r .ready none :: X k))
    (hdone : (∀ k, k < xs.length → p k = true) → ∀ D, NQ Q ⟨n, [⟨.collected D, #[]⟩], none⟩ E w0 S I (blk D (.deferred (some [])) :: (X xs.length ++ B)))
    (hstop : ∀ k, k < xs.length → p k = false → ∀ D, RQ Q ⟨n, [⟨.collected D, #[]⟩], none⟩ E w0 S I (blk D (.deferred (some [])) :: (Z k ++ B))) :
    CW P (.rangeFunc g ps asg body) Q ⟨n, [], none⟩ E w0 S I H := by
  intro a w ha hw
  refine wpIn_rangeFunc (F := FnR none) ?_
  intro fn _
  obtain ⟨r, hr⟩ : ∃ r : Loop, r = { state := .ready, pending := none, fn, tmps := a.tmps, params := ps, assign := asg, body, defers := w.heap.size } := ⟨_, rfl⟩
  have hrr : { r with state := .ready, pending := none } = r := by rw [hr]
  let w1 := (w.alloc (.deferred (some []))).alloc (.loop r)
  have hdef : ∀ d ∈ a.defers, False := by rw [ha.d]; simp
  refine ⟨w.heap.size + 1, [⟨.collected w.heap.size, #[]⟩], w1, ⟨.fn (.func gf) cap.toArray, first.toArray ++ #[Value.func (.yield (w.heap.size + 1)) #[] #[]]⟩, w1, gf, (first ++ [Value.func (.yield (w.heap.size + 1)) #[] #[]] ++ cap).toArray, w1, ?_, ?_, fun _ _ => trivial, ?_, fun h => (by cases h), ?_⟩
  · rw [show (FnR none).round = none from rfl, run_enterLoop_outer, ← hr]
  · have he := ha.ev hg
    simp only [resolve, he]
    simp [Deferred.ofValue, Act.eval]
  · simp only [invoke]
    rw [hrun]
    simp
  · have c1 : Cls w0 S I (blk w.heap.size (.deferred (some [])) :: H) (w.alloc (.deferred (some []))) :=
      hw.more (Keeps.alloc [] w _) (World.alloc_heap_new w _) (by simp [blk]) (by simp [blk])
    have c2 : Cls w0 S I (recI (w.heap.size + 1) r .ready none :: blk w.heap.size (.deferred (some [])) :: H) w1 :=
      c1.more (Keeps.alloc [] _ _) (by
        have := World.alloc_heap_new (w.alloc (.deferred (some []))) (.loop r)
        rw [World.size_alloc] at this
        show w1.heap[w.heap.size + 1]? = _
        rw [hrr]; exact this) (by simp [blk, recI]) (by simp [blk, recI])
    have hsp := hit (w.heap.size + 1) (fun k => recI (w.heap.size + 1) r .ready none :: X k) (fun k => recI (w.heap.size + 1) r .done (some .ret) :: Z k) p (fun k x hx => by
      intro W hW
      have hrec : W.heap[w.heap.size + 1]? = some (.loop r) := by
        have := hW.h (recI (w.heap.size + 1) r .ready none) (List.Mem.head _)
        rw [← hrr]; exact this
      have hlen := hps x (List.mem_of_getElem? hx)
      refine ⟨_, _, _, _, run_yield (args := x.toArray) hrec (by rw [hr]; simpa using hlen), ?_⟩
      have hag : Ag ⟨n, [], some (w.heap.size + 1)⟩ a E := ⟨ha.d, ha.n, ha.t⟩
      have hz := zipE_ag ps.toList x E a hpn hag
      refine roundIn_of_wpIn (F := Fence.wide) trivial ?_
      have := hround (w.heap.size + 1) r k x W hx _ W hz ⟨Keeps.refl _ _, hW, fun b hb _ => hb⟩
      have e1 : (r.params.zip x.toArray).foldl (fun tmps (t, a) => tmps.setIfInBounds t a) r.tmps = (ps.toList.zip x).foldl (fun t (x : Nat × Value) => t.setIfInBounds x.1 x.2) a.tmps := by
        rw [hr, ← Array.foldl_toList, Array.toList_zip]
      rw [e1, hr]
      have e2 : a.defers = [] := ha.d
      rw [hr] at this
      rw [e2] at this
      exact this)
    have hpk : Pick (recI (w.heap.size + 1) r .ready none :: blk w.heap.size (.deferred (some [])) :: H) (recI (w.heap.size + 1) r .ready none :: X 0) (blk w.heap.size (.deferred (some [])) :: B) := .take (.leave hp)
    have hlk : Lend I (blk w.heap.size (.deferred (some [])) :: B) C := hl.wide
    refine (callsIn_wide (n := 0)).2 ((hsp w1 (c2.s.part hpk hlk).1).mono ?_)
    rintro e w2 ⟨v, I', H', rfl, ⟨rfl, rfl, hH⟩, hk, hs, hn, hni⟩
    have c3 := c2.call hpk hlk hk hs hn hni
    have hmk : ∀ K : List It, [⟨.collected w.heap.size, #[]⟩] ++ a.defers = [⟨Target.collected w.heap.size, #[]⟩] := fun _ => by rw [ha.d]; rfl
    rcases hH with ⟨rfl, hall⟩ | ⟨k, hk1, hk2, rfl⟩
    · have c4 : Cls w0 S I (recI (w.heap.size + 1) r .ready none :: (X xs.length ++ blk w.heap.size (.deferred (some [])) :: B)) w2 := c3
      refine ⟨none, _, run_endLoop (r := { r with state := .ready, pending := none }) (c4.s.h (recI (w.heap.size + 1) r .ready none) (List.Mem.head _)) (by simp), ?_⟩
      exact hdone hall w.heap.size _ _ ⟨by rw [hmk []], ha.n, ha.t⟩ ((Cls.perm List.perm_middle (c4.put (o' := .loop { r with state := .exhausted, pending := none })).less))
    · have c4 : Cls w0 S I (recI (w.heap.size + 1) r .done (some .ret) :: (Z k ++ blk w.heap.size (.deferred (some [])) :: B)) w2 := c3
      refine ⟨some .ret, _, run_endLoop (r := { r with state := .done, pending := some .ret }) (c4.s.h (recI (w.heap.size + 1) r .done (some .ret)) (List.Mem.head _)) (by simp), ?_⟩
      exact wpIn_ret (hstop k hk1 hk2 w.heap.size _ _ ⟨by rw [hmk []], ha.n, ha.t⟩ ((Cls.perm List.perm_middle (c4.put (o' := .loop { r with state := .exhausted, pending := some .ret })).less)))
theorem resV {fn : Func} {tt : Tmp} {T C : TypeId} {b : Nat} {v : Value} (hf : fn.results = #[.cell tt T]) (ht : E.get tt = some (.pointer (some ⟨b, 0, none⟩))) (hag : ∀ w, (isAgg T).run P w = .ok false w) (hm : PK.cel b [v] C ∈ H) :
    ∀ a w, Ag N a E → Cls w0 S I H w → (results fn a.tmps).run P w = .ok v w := fun a w ha hC => by
  have := run_isAggF hag ((show Rd I H ⟨b, 0, none⟩ v from Rd.get (I := I) hm rfl) w hC.s)
  simp [results, hf, ha.t tt _ ht, asAddr, this]
/-- The function's end, where its frame holds a mark. -/
theorem RQ.marks {n D : Nat} {fn : Func} {R : Value → List It → List It → Prop} {H' : List It} (h : RQ (FnPost P fn R w0 S) ⟨n, [], none⟩ E w0 S I H') (hu : Upd H (blk D (.deferred (some []))) (blk D (.deferred none)) H' := by repeat (first | exact Upd.here | apply Upd.there)) : RQ (FnPost P fn R w0 S) ⟨n, [⟨.collected D, #[]⟩], none⟩ E w0 S I H := by
  intro a w ha hw
  have hd : a.defers = [⟨.collected D, #[]⟩] := ha.d
  have hA : w.heap[D]? = some (.deferred (some [])) := hw.s.h _ hu.mem
  show LeavesInM _ _ _ _ _ _ a.defers _ _
  rw [hd]
  exact ⟨by simp, .inl ⟨D, w.putObj D (.deferred none), rfl, run_takeDeferred hA, h { a with defers := [] } _ ⟨rfl, ha.n, ha.t⟩ (hw.upd hu (Keeps.put w D _) rfl (World.putObj_heap_same (Array.getElem?_eq_some_iff.1 hA).1))⟩⟩
end
end Go.PK
