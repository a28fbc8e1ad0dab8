/-
  PK, part J: slices that are told: appended to without room, lent in parts, told otherwise.
-/
import Derived.Test.YtkkfdoippibfkaaPkI
namespace Go.PK

section
variable {P : Program} {L : List Oper} {ef bk : List Nat} {tq : Tq} {Q : Exit → Act → World → Prop} {N : Nat} {E : Env} {w0 : World} {S : List Nat} {I H : List It} {i : Nat} {l : Sq}
variable {d : Nat} {x y z : Operand} {ty t yt : TypeId} {pos : String} {af : Array Edge} {g : Option (Nat × Bool)} {v : Value} {k k' : IntKind} {m n : Int}

/-- What follows from what is known of memory may be told, too. -/
theorem Cls.also {x : It} {w : World} (h : Cls w0 S I H w) (hA : ∀ w, Sat I H w → x.A w) (hb : ∀ c ∈ x.bs, c ∈ bss I) : Cls w0 S (x :: I) H w := by
  refine ⟨h.k, ⟨fun y hy => ?_, h.s.h, h.s.nd, fun b hb' hbx => ?_⟩, h.own⟩
  · rcases List.mem_cons.1 hy with rfl | hy
    · exact hA w h.s
    · exact h.s.i y hy
  · rw [bss_cons] at hb'
    rcases List.mem_append.1 hb' with h1 | h1
    · exact h.s.dj b (hb b h1) hbx
    · exact h.s.dj b h1 hbx
theorem CW.also {c : Code} (x : It) (hA : ∀ w, Sat I H w → x.A w) (hb : ∀ c ∈ x.bs, c ∈ bss I) (h : CW P c Q N E w0 S (x :: I) H) : CW P c Q N E w0 S I H := fun a w ha hw => h a w ha (hw.also hA hb)
theorem NQ.also (x : It) (hA : ∀ w, Sat I H w → x.A w) (hb : ∀ c ∈ x.bs, c ∈ bss I) (h : NQ Q N E w0 S (x :: I) H) : NQ Q N E w0 S I H := fun a w ha hw => h a w ha (hw.also hA hb)

/-- A part of a slice, as one takes it. -/
theorem sls_sub {p : Option Addr} {sz nn lo k cap : Nat} {xs : List Value} {w : World} (h : (sls p sz nn xs).A w) (hk : lo + k ≤ nn) (hc : nn ≤ cap) : (sls (if cap = lo then p else p.map (·.add (lo * sz))) sz k ((xs.drop (lo * sz)).take (k * sz))).A w := by
  obtain ⟨h1, h2⟩ := h
  have hm : (lo + k) * sz ≤ nn * sz := Nat.mul_le_mul_right _ hk
  rw [Nat.add_mul] at hm
  have hlen : ((xs.drop (lo * sz)).take (k * sz)).length = k * sz := by rw [List.length_take, List.length_drop, h1]; omega
  by_cases hcl : cap = lo
  · have hk0 : k = 0 := by omega
    subst hk0
    rw [if_pos hcl]
    cases p with
    | none => exact ⟨hlen, rfl⟩
    | some a => exact ⟨hlen, fun h => absurd rfl h, fun j u hj => by simp at hj⟩
  · rw [if_neg hcl]
    cases p with
    | none =>
      refine ⟨hlen, ?_⟩
      show k = 0
      have : nn = 0 := h2
      omega
    | some a =>
      refine ⟨hlen, fun hk0 => ?_, fun j u hj => ?_⟩
      · have : ((a.add (lo * sz))).block = a.block := by unfold Addr.add; split <;> rfl
        show (a.add (lo * sz)).block < _
        rw [this]; exact h2.1 (by omega)
      · rw [add_add]
        refine h2.2 (lo * sz + j) u ?_
        rw [List.getElem?_take] at hj
        split at hj
        · rw [List.getElem?_drop] at hj; exact hj
        · cases hj
theorem bs_sub {p : Option Addr} {sz nn lo k cap : Nat} {xs ys : List Value} (hk : lo + k ≤ nn) : ∀ c ∈ (sls (if cap = lo then p else p.map (·.add (lo * sz))) sz k ys).bs, c ∈ (sls p sz nn xs).bs := by
  intro c hc
  have hb : ∀ a : Addr, (a.add (lo * sz)).block = a.block := fun a => by unfold Addr.add; split <;> rfl
  by_cases hk0 : k = 0
  · subst hk0; simp [sls] at hc
  · have : ¬ nn = 0 := by omega
    cases p with
    | none => simp [sls, hk0] at hc
    | some a =>
      by_cases hcl : cap = lo
      · simpa [sls, hk0, this, hcl] using hc
      · simpa [sls, hk0, this, hcl, hb] using hc

theorem Lend.subI {F J : List It} {a : Addr} {sz nn lo k : Nat} {xs : List Value} (hm : PK.sls (some a) sz nn xs ∈ I) (hk : lo + k ≤ nn) (h : Lend I F J) : Lend I F (PK.sls (some (a.add (lo * sz))) sz k ((xs.drop (lo * sz)).take (k * sz)) :: J) := by
  refine .of (fun w hw => ?_) (fun c hc => .inl (mem_bss.2 ⟨_, hm, ?_⟩)) h
  · have := sls_sub (cap := lo + nn + 1) (hw.i _ hm) hk (by omega)
    rwa [if_neg (by omega)] at this
  · have := bs_sub (p := some a) (sz := sz) (nn := nn) (cap := lo + 1) (xs := xs) (ys := (xs.drop (lo * sz)).take (k * sz)) hk c
    rw [if_neg (by omega)] at this
    exact this hc
theorem Lend.subO {F J : List It} {b cap sz nn lo k : Nat} {e : TypeId} {xs : List Value} (hm : PK.own (some b) cap e sz nn xs ∈ F) (hk : lo + k ≤ nn) (h : Lend I F J) : Lend I F (PK.sls (some ((⟨b, 0, none⟩ : Addr).add (lo * sz))) sz k ((xs.drop (lo * sz)).take (k * sz)) :: J) := by
  refine .of (fun w hw => ?_) (fun c hc => .inr (mem_bss.2 ⟨_, hm, ?_⟩)) h
  · have := sls_sub (cap := lo + nn + 1) (own_sls (hw.h _ hm)) hk (by omega)
    rwa [if_neg (by omega)] at this
  · have := bs_sub (p := some ⟨b, 0, none⟩) (sz := sz) (nn := nn) (cap := lo + 1) (xs := xs) (ys := (xs.drop (lo * sz)).take (k * sz)) hk c
    rw [if_neg (by omega)] at this
    have h2 := this hc
    by_cases hn : nn = 0
    · simp [PK.sls, hn] at h2
    · simpa [PK.sls, PK.own, hn] using h2

theorem run_append0 {e : TypeId} {sz bytes : Nat} (T : ElemT P t e sz bytes) {p q : Option Addr} {nn cap c2 : Nat} {w : World} (hk : nn ≤ cap) : (Builtin.append_ #[t, t] ty #[.slice p nn cap, .slice q 0 c2]).run P w = .ok (.slice p nn cap) w := by
  obtain ⟨ii, z', hi', hz, hsz, hbb, hzs⟩ := T.inf
  have hf : (Builtin.firstCells ii.size 0 (.slice q 0 c2)).run P w = .ok #[] w := by
    cases q with
    | none => rfl
    | some a => exact run_firstCells_some (P := P) w ii.size 0 a 0 c2 [] (by simp) (by intro _ _ h'; simp at h')
  cases p with
  | none => simp [Builtin.append_, run_underlying T.ut, sizeOf, typeInfo, hi', Builtin.lenOf, hk, hf]
  | some a => simp [Builtin.append_, run_underlying T.ut, sizeOf, typeInfo, hi', Builtin.lenOf, hk, hf, storeCells]

/-- Appending nothing. -/
theorem RL.append0 {e : TypeId} {sz bytes : Nat} {p q : Option Addr} {nn cap c2 : Nat} (T : ElemT P t e sz bytes)
    (ho : nth L i = some ⟨some d, .call ⟨.builtin .append, #[x, y], #[t, t]⟩, ty, pos, af, g⟩) (hw : wants L E ⟨some d, .call ⟨.builtin .append, #[x, y], #[t, t]⟩, ty, pos, af, g⟩ = true) (hN : Nat.blt d N = true) (_hi : ef.contains i = true)
    (hx : E.ev x = some (.slice p nn cap)) (hy : E.ev y = some (.slice q 0 c2)) (hk : nn ≤ cap) (h : RL P L ef bk tq Q l N ((d, .slice p nn cap) :: E) w0 S I H) : RL P L ef bk tq Q (.cons i l) N E w0 S I H :=
  RL.pval ho hw rfl hN (fun _ _ ha => exec_append (ha.ev hx) (ha.ev hy) (run_append0 T hk)) h

/-- Appending to a slice without room that is told: what comes is told. -/
theorem RL.appendTold {e : TypeId} {sz bytes : Nat} {p : Option Addr} {nn mm c2 : Nat} {xs news : List Value} {p2 : Option Addr} (T : ElemT P t e sz bytes)
    (ho : nth L i = some ⟨some d, .call ⟨.builtin .append, #[x, y], #[t, t]⟩, ty, pos, af, g⟩) (hw : wants L E ⟨some d, .call ⟨.builtin .append, #[x, y], #[t, t]⟩, ty, pos, af, g⟩ = true) (hN : Nat.blt d N = true) (hi : ef.contains i = true)
    (hx : E.ev x = some (.slice p nn nn)) (hy : E.ev y = some (.slice p2 mm c2)) (hs1 : Src I H p nn sz xs) (hI : PK.sls p sz nn xs ∈ I) (hs : Src I H p2 mm sz news) (hm : nn + mm ≤ maxLen) (hby : (nn + mm) * bytes ≤ 140737488355328)
    (h : ∀ p' cap', nn + mm ≤ cap' → (p' = none → nn + mm = 0) → (mm ≠ 0 → ∀ c ∈ (PK.sls p' sz (nn + mm) (xs ++ news)).bs, w0.heap.size ≤ c) → RL P L ef bk tq Q l N ((d, .slice p' (nn + mm) cap') :: E) w0 S (PK.sls p' sz (nn + mm) (xs ++ news) :: I) H) :
    RL P L ef bk tq Q (.cons i l) N E w0 S I H := by
  by_cases h0 : mm = 0
  · subst h0
    refine RL.eff ho hw hi rfl hN (fun a w ha hC => ?_)
    obtain ⟨s1, _, _⟩ := hs w hC.s
    have hn0 : news = [] := List.eq_nil_of_length_eq_zero (by simpa using s1)
    subst hn0
    unfold does
    rw [exec_append (ha.ev hx) (ha.ev hy) (run_append0 T (Nat.le_refl nn))]
    have hq := h p nn (Nat.le_refl _) (fun hp => (hs1 w hC.s).2.1 hp) (fun h => absurd rfl h)
    rw [List.append_nil] at hq
    exact ⟨_, _, hC.also (fun w hw => hw.i _ hI) (fun c hc => mem_bss.2 ⟨_, hI, hc⟩), fun x hx => List.mem_cons_of_mem _ hx, fun _ _ h => h.untell, hq⟩
  · refine RL.eff ho hw hi rfl hN (fun a w ha hC => ?_)
    obtain ⟨s1, s2, s3⟩ := hs w hC.s
    obtain ⟨q1, q2, q3⟩ := hs1 w hC.s
    obtain ⟨w', hr, hg, hA⟩ := run_appendNew (ty := ty) T q1 q2 q3 s1 s2 s3 (show nn < nn + mm by omega) hm hby (c2 := c2)
    unfold does
    rw [exec_append (ha.ev hx) (ha.ev hy) hr]
    have hge := grownCap_ge w (nn + mm) nn e
    have hsz : ∀ b ∈ (PK.sls (some ⟨w.heap.size, 0, none⟩) sz (nn + mm) (xs ++ news)).bs, w.heap.size ≤ b := by
      intro b hb
      simp [PK.sls] at hb
      omega
    exact ⟨_, _, hC.tell (x := PK.sls (some ⟨w.heap.size, 0, none⟩) sz (nn + mm) (xs ++ news)) hg (own_sls hA) hsz, fun x hx => List.mem_cons_of_mem _ hx, fun _ _ h => h.untell, h _ _ hge (fun h => by cases h) (fun _ c hc => Nat.le_trans hC.k.size (hsz c hc))⟩

/-- All that is one's own is told from here on. -/
theorem CW.freezeAll {I' : List It} {c : Code} (he : H ++ I = I') (h : CW P c Q N E w0 S I' []) : CW P c Q N E w0 S I H := fun a w ha hw => h a w ha (by
  subst he
  refine ⟨hw.k, ⟨fun x hx => ?_, by simp, by simp, by simp⟩, by simp⟩
  rcases List.mem_append.1 hx with hx | hx
  · exact hw.s.h x hx
  · exact hw.s.i x hx)
/-- Some of one's own things are told from here on. -/
theorem CW.freezeP {A B I' : List It} {c : Code} (hp : Pick H A B) (he : A ++ I = I') (h : CW P c Q N E w0 S I' B) : CW P c Q N E w0 S I H := fun a w ha hw => h a w ha (by
  subst he
  have hperm := hp.perm
  have hnd : (bss A ++ bss B).Nodup := hperm.nodup_iff.1 hw.s.nd
  rw [List.nodup_append] at hnd
  refine ⟨hw.k, ⟨fun x hx => ?_, fun x hx => hw.s.h x (hp.memB x hx), hnd.2.1, fun b hb hb' => ?_⟩, fun b hb => hw.own b (hperm.mem_iff.2 (List.mem_append_right _ hb))⟩
  · rcases List.mem_append.1 hx with hx | hx
    · exact hw.s.h x (hp.memA x hx)
    · exact hw.s.i x hx
  · rw [bss_append] at hb
    rcases List.mem_append.1 hb with hb | hb
    · exact hnd.2.2 b hb b hb' rfl
    · exact hw.s.dj b hb (hperm.mem_iff.2 (List.mem_append_right _ hb')))

/-- What holds between two statements. -/
def Mid (N : Nat) (E : Env) (w0 : World) (S : List Nat) (I H : List It) : Exit → Act → World → Prop := fun e a w => e = .normal ∧ Ag N a E ∧ Cls w0 S I H w
theorem CW.cut {c y : Code} (E' : Env) (I' H' : List It) (h1 : CW P c (Mid N E' w0 S I' H') N E w0 S I H) (h2 : CW P y Q N E' w0 S I' H') : CW P c (Exit.then (fun a w => y.wp P Q a w) Q) N E w0 S I H := fun a w ha hw =>
  wp_mono (h1 a w ha hw) (fun e a' w' ⟨he, ha', hw'⟩ => by subst he; exact h2 a' w' ha' hw')
theorem NQ.mid {E' : Env} {I' H' : List It} (s : Sub E E') (hc : ∀ w, Cls w0 S I H w → Cls w0 S I' H' w) : NQ (Mid N E' w0 S I' H') N E w0 S I H := fun _ _ ha hw => ⟨rfl, ha.sub s, hc _ hw⟩

theorem RL.also (x : It) (hA : ∀ w, Sat I H w → x.A w) (hb : ∀ c ∈ x.bs, c ∈ bss I) (h : RL P L ef bk tq Q l N E w0 S (x :: I) H) : RL P L ef bk tq Q l N E w0 S I H := by
  have he : Cls w0 S (x :: I) H = Cls w0 S I H := funext fun w => propext ⟨fun h => h.untell, fun h => h.also hA hb⟩
  intro hT a ha
  rw [← he]
  exact h (fun x hx => List.mem_cons_of_mem _ (hT x hx)) a ha

/-- A function's end: what is told of may go back, where it lies in new memory. -/
theorem RQ.postI {fn : Func} {R : Value → List It → List It → Prop} {H' I' : List It} (hr : ∀ a w, Ag N a E → Cls w0 S I H w → (results fn a.tmps).run P w = .ok v w) (hs : Split H H' []) (hi : ∀ x ∈ I', x ∈ I) (hf : ∀ b ∈ bss I', w0.heap.size ≤ b) (hR : R v I' H') : RQ (FnPost P fn R w0 S) N E w0 S I H := by
  intro a w ha hw
  obtain ⟨s1, s2, s3⟩ := hs.spec
  obtain ⟨s4, s5⟩ := s3 hw.s.nd
  have own : ∀ x ∈ H, ∀ b ∈ x.bs, b ∈ S ∨ w0.heap.size ≤ b := fun x hx b hb => by
    rcases Nat.lt_or_ge b w0.heap.size with h | h
    · exact .inl (hw.own b (mem_bss.2 ⟨x, hx, hb⟩) h)
    · exact .inr h
  refine ⟨ha.d, v, hr a w ha hw, v, I', H', rfl, hR, hw.k, ⟨fun x hx => hw.s.i x (hi x hx), fun x hx => hw.s.h x (s1 x hx), s4, fun b hb hb' => ?_⟩, ?_, ?_⟩
  · obtain ⟨x, hx, hbx⟩ := mem_bss.1 hb
    obtain ⟨y, hy, hby⟩ := mem_bss.1 hb'
    exact hw.s.dj b (mem_bss.2 ⟨x, hi x hx, hbx⟩) (mem_bss.2 ⟨y, s1 y hy, hby⟩)
  · intro b hb; obtain ⟨x, hx, hbx⟩ := mem_bss.1 hb; exact own x (s1 x hx) b hbx
  · intro b hb; exact .inr (hf b hb)

theorem run_mark {b : Nat} {cs : Array Value} {T : TypeId} {w : World} (h : w.heap[b]? = some (.cells cs T (0, 0))) : (markStringish ⟨b, 0, none⟩).run P w = .ok () (w.freeze ⟨b, cs.size, none⟩ 1) := by
  have hs : (shape b).run P w = .ok (some (T, cs.size)) w := by simp [shape, Sem.run, World.shape?, h]
  simp only [markStringish, Sem.run_bind, hs, Result.andThen_ok]
  rfl

/-- '[]byte("..")', as it is made: its array is told from here on. -/
theorem RL.stringish {e : TypeId} {b len cap : Nat} {cs : List Value} {B : List It} (hu : ∀ w, (underlying t).run P w = .ok (.slice e) w) (he : ∀ w, (underlying e).run P w = .ok (.int .u8) w) (ho : nth L i = some ⟨some d, .convert t t x, ty, pos, af, g⟩) (hw : wants L E ⟨some d, .convert t t x, ty, pos, af, g⟩ = true) (hN : Nat.blt d N = true)
    (hi : ef.contains i = true) (hb : bk.contains i = true) (hx : E.ev x = some (.slice (some ⟨b, 0, none⟩) len cap)) (hp : Pick H [PK.cel b cs e] B) (hl : cs.length = len)
    (h : RL P L ef bk tq Q l N ((d, .slice (some ⟨b, 0, none⟩) len cap) :: E) w0 S (PK.sls (some ⟨b, 0, none⟩) 1 len cs :: I) B) : RL P L ef bk tq Q (.cons i l) N E w0 S I H := by
  refine RL.eff ho hw hi rfl hN (fun a w ha hC => ?_)
  have hA : w.heap[b]? = some (.cells cs.toArray e (0, 0)) := hC.s.h _ (hp.memA (PK.cel b cs e) (by simp))
  have hlt : b < w.heap.size := (Array.getElem?_eq_some_iff.1 hA).1
  have hrun : (execOp a.eval ⟨some d, .convert t t x, ty, pos, af, g⟩).run P w = .ok (.value (.slice (some ⟨b, 0, none⟩) len cap)) (w.freeze ⟨b, cs.toArray.size, none⟩ 1) := by
    simp [execOp, ha.ev hx, convert, hu, he, run_mark hA]
  have hk : Keeps (bss [PK.cel b cs e]) w (w.freeze ⟨b, cs.toArray.size, none⟩ 1) := by
    refine ⟨by simp [World.freeze], by simp [World.freeze], by simp [World.freeze], by simp [World.freeze], fun c _ hn => ?_, by simp [World.freeze]⟩
    have hne : ¬ b = c := fun h => hn (by simp [PK.cel, h])
    simp [World.freeze, Array.getElem?_modify, hne]
  unfold does
  rw [hrun]
  refine ⟨[PK.sls (some ⟨b, 0, none⟩) 1 len cs] ++ I, [] ++ B, hC.call hp .nil hk ⟨?_, by simp, by simp [bss], by simp [bss]⟩ (by simp [bss]) ?_, fun x hx => List.mem_append_right _ hx, fun hbk => (by rw [hb] at hbk; cases hbk), h⟩
  · intro y hy
    obtain rfl : y = PK.sls (some ⟨b, 0, none⟩) 1 len cs := by simpa using hy
    refine ⟨by rw [hl, Nat.mul_one], fun _ => by simpa [World.freeze] using hlt, fun j u hj => ?_⟩
    rw [add_none, Nat.zero_add]
    simp [World.cell?, World.freeze, Array.getElem?_modify, hA, hj]
  · intro c hc
    left
    by_cases h0 : len = 0
    · simp [bss, PK.sls, h0] at hc
    · simpa [bss, PK.sls, PK.cel, h0] using hc
end
end Go.PK
