import Derived.Test.YtggmnhogmjglmaaFr0
namespace Go.Proofs.Ytggmnhogmjglmaa
open Go.PK

theorem few_min20 (n : Nat) : min (n : Int) 40 = ((min n 40 : Nat) : Int) := by omega
theorem few_all20 {p : Option Addr} {c : Nat} : (if c = 0 then p else p.map (·.add (0 * 1))) = p := by
  cases p with
  | none => split <;> rfl
  | some a => split <;> simp [Addr.add]
theorem few20_any (f : Fr) (p : Option Addr) (c n : Nat) (hf : f.Ok) (hn : f.b.length = n) (hc : n ≤ c) (hb : n ≤ maxLen) : Spc Try.prog 16 #[.agg (f.cells (.slice p n c)).toArray] [sls p 1 n (bytes f.b)] [] (FewR (f.few 40) (min n 40)) := by
  subst hn
  have hm : (f.b.take 40).length = min f.b.length 40 := by rw [List.length_take]; omega
  have hl := fr_len hf.tag (.slice p f.b.length c)
  have hby := OwnB.n hm (bytes_any p c (f.b.take 40) (by omega))
  rw [hm] at hby
  have hle : ∀ F : List It, Lend [sls p 1 f.b.length (bytes f.b)] F [sls p 1 (min f.b.length 40) (bytes (f.b.take 40))] := fun F => by
    have := Lend.takeB (I := [sls p 1 f.b.length (bytes f.b)]) (F := F) (p := p) (c := c) (k := 40) (m := f.b) (List.Mem.head _) hc .nil
    rw [few_all20, hm] at this
    exact this
  refine Spc.enter Try.func16 rfl rfl rfl (fun w0 hw0 => ?_)
  refine CW.seq ?_
  refine CW.region (ef := [0, 1]) (bk := []) ?_
  refine RL.box rfl rfl rfl rfl rfl rfl ?_
  intro b1
  refine RL.alloc Try.zeroValue34 rfl rfl rfl rfl rfl ?_
  intro b2
  refine RL.nil ?_
  refine NQ.seq ?_
  refine CW.seq ?_
  refine CW.region (ef := [7, 9]) (bk := [9]) ?_
  refine RL.fieldAddr fa_34_4 rfl rfl rfl rfl ?_
  refine RL.loadq Try.isAgg30 rfl rfl rfl rfl ?_
  refine RL.fieldAddr fa_34_4 rfl rfl rfl rfl ?_
  refine RL.loadq Try.isAgg30 rfl rfl rfl rfl ?_
  refine RL.lenS Try.runUnderlying30 rfl rfl rfl rfl ?_
  refine RL.min rfl rfl rfl rfl rfl ?_
  rw [few_min20]
  refine RL.slice (lo := 0) (hi := min f.b.length 40) Try.runUnderlying30 Try.sizeOf5 rfl rfl rfl rfl rfl rfl (by omega) (by omega) ?_
  rw [few_all20, Nat.sub_zero, Nat.sub_zero]
  refine RL.call (hby) Try.call38 rfl rfl rfl rfl rfl (by repeat (first | exact Pick.nil | apply Pick.take | apply Pick.leave)) (hle _) (.inl rfl) ?_
  rintro _ _ _ ⟨ob1, cap1, rfl, rfl, rfl, ho1⟩
  refine RL.fieldAddr fa_34_4 rfl rfl rfl rfl ?_
  refine RL.storeSeg (cs := f.cells (.slice p f.b.length c)) (cs' := (f.few 40).cells (slO ob1 (min f.b.length 40) cap1)) (vs := [slO ob1 (min f.b.length 40) cap1]) [.int .i64 f.kd, .int .i64 f.sr, .int .u32 (f.ep : Int), .int .u64 (f.ct : Int)] [.slice p f.b.length c] (bytes f.tag) Try.sizeOf30 rfl rfl rfl rfl rfl rfl rfl rfl rfl rfl rfl rfl rfl (by repeat (first | exact Upd.here | apply Upd.there)) ?_
  refine RL.nil ?_
  refine NQ.seq ?_
  refine CW.only (.cons (k := 1) rfl (.cons (k := 2) rfl .nil)) ?_
  refine CW.seq ?_
  refine CW.region (ef := [1]) (bk := [1]) ?_
  have hl2 := fr_len (f := f.few 40) hf.tag (slO ob1 (min f.b.length 40) cap1)
  refine RL.loadW Try.isAgg34 Try.sizeOf34 rfl rfl rfl rfl (by repeat (first | exact List.Mem.head _ | apply List.Mem.tail)) hl2 ?_
  refine RL.storeW Try.sizeOf34 rfl rfl rfl rfl rfl rfl rfl (ones_fr _ rfl) (by repeat (first | exact Upd.here | apply Upd.there)) hl2 rfl ?_
  refine RL.nil ?_
  refine NQ.seq ?_
  refine CW.ret ?_
  refine RQ.rea (fun _ h => h) (H' := [own ob1 cap1 5 1 (min f.b.length 40) (bytes (f.few 40).b), cel b2 ((f.few 40).cells (slO ob1 (min f.b.length 40) cap1)) 34]) (by repeat (first | exact Rea.nil | (apply Rea.cons; (solve | (repeat (first | exact Del.here | apply Del.there)))))) ?_
  exact RQ.post (resW rfl rfl Try.isAgg34 Try.sizeOf34 (by repeat (first | exact List.Mem.head _ | apply List.Mem.tail)) hl2) (.keep (Split.none _)) ⟨ob1, cap1, rfl, rfl, rfl, trivial⟩
end Go.Proofs.Ytggmnhogmjglmaa
