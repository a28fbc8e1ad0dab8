import Derived.Test.YtggmnhogmjglmaaP4
import Derived.Test.YtggmnhogmjglmaaFRd
import Derived.Test.YtggmnhogmjglmaaFew20
import Derived.Test.YtggmnhogmjglmaaPkR
namespace Go.Proofs.Ytggmnhogmjglmaa
open Go.PK
/-! ### A buffer that no call made -/
abbrev zBuf (b : Nat) : It := cel b [.map none] 68
theorem qis_nil : Spc Try.prog 36 #[.pointer none] [] [] (Is (.bool false)) := by
  refine Spc.enter Try.func36 rfl rfl rfl (fun w0 hw0 => ?_)
  refine CW.seq ?_
  refine CW.region (ef := []) (bk := []) ?_
  refine RL.assign rfl rfl rfl rfl ?_
  refine RL.nil ?_
  refine NQ.seq ?_
  refine CW.seq ?_
  refine CW.region (ef := []) (bk := []) ?_
  refine RL.move rfl rfl rfl rfl ?_
  refine RL.cmp rfl rfl rfl rfl rfl (neq_ptr Try.runUnderlying24 _) ?_
  refine RL.move rfl rfl rfl rfl ?_
  refine RL.skip rfl rfl rfl rfl ?_
  refine RL.skip rfl rfl rfl rfl ?_
  refine RL.skip rfl rfl rfl rfl ?_
  refine RL.skip rfl rfl rfl rfl ?_
  refine RL.skip rfl rfl rfl rfl ?_
  refine RL.pickF rfl rfl rfl rfl rfl ?_
  refine RL.assign rfl rfl rfl rfl ?_
  refine RL.nil ?_
  refine NQ.seq ?_
  refine CW.only (.cons (k := 2) rfl .nil) ?_
  refine CW.ret ?_
  exact RQ.post (res1 rfl rfl) (Split.none _) ⟨rfl, rfl, rfl⟩
theorem qput_nil (p : Pq) (f : Fr) (q : Option Addr) (cc n : Nat) (hf : f.Ok) : Spc Try.prog 15 #[.pointer none, .agg #[.int .u32 p.1, .int .u8 p.2], .agg (f.cells (.slice q n cc)).toArray] [] [] (Is (.int .i64 1)) := by
  have hl := fr_len hf.tag (.slice q n cc)
  refine Spc.enter Try.func15 rfl rfl rfl (fun w0 hw0 => ?_)
  refine CW.seq ?_
  refine CW.region (ef := [0, 1]) (bk := []) ?_
  refine RL.box rfl rfl rfl rfl rfl rfl ?_
  intro b1
  refine RL.box rfl rfl rfl rfl rfl rfl ?_
  intro b2
  refine RL.assign rfl rfl rfl rfl ?_
  refine RL.nil ?_
  refine NQ.seq ?_
  refine CW.seq ?_
  refine CW.block ?_
  refine CW.seq ?_
  refine CW.region (ef := []) (bk := []) ?_
  refine RL.move rfl rfl rfl rfl ?_
  refine RL.callvq (qis_nil) Try.call36 rfl rfl rfl rfl ?_
  refine RL.not rfl rfl rfl rfl ?_
  refine RL.assign rfl rfl rfl rfl ?_
  refine RL.nil ?_
  refine NQ.seq ?_
  refine CW.condT rfl (rfl) ?_
  refine CW.seq ?_
  refine CW.region (ef := []) (bk := []) ?_
  refine RL.assign rfl rfl rfl rfl ?_
  refine RL.nil ?_
  refine NQ.seq ?_
  refine CW.only (.cons (k := 0) rfl (.cons (k := 4) rfl (.cons (k := 5) rfl (.cons (k := 6) rfl .nil)))) ?_
  refine CW.ret ?_
  refine RQ.block ?_
  refine RQ.seq ?_
  exact RQ.post (res1 rfl rfl) (Split.none _) ⟨rfl, rfl, rfl⟩
theorem qget_nil (p : Pq) : Spc Try.prog 22 #[.pointer none, .agg #[.int .u32 p.1, .int .u8 p.2]] [] [] (Is (.tuple #[.agg (fr0.cells (.slice none 0 0)).toArray, .bool false])) := by
  refine Spc.enter Try.func22 rfl rfl rfl (fun w0 hw0 => ?_)
  refine CW.seq ?_
  refine CW.region (ef := [0, 1]) (bk := []) ?_
  refine RL.box rfl rfl rfl rfl rfl rfl ?_
  intro b1
  refine RL.alloc Try.zeroValue34 rfl rfl rfl rfl rfl ?_
  intro b2
  refine RL.assign rfl rfl rfl rfl ?_
  refine RL.nil ?_
  refine NQ.seq ?_
  refine CW.seq ?_
  refine CW.seq ?_
  refine CW.region (ef := []) (bk := []) ?_
  refine RL.move rfl rfl rfl rfl ?_
  refine RL.callvq (qis_nil) Try.call36 rfl rfl rfl rfl ?_
  refine RL.not rfl rfl rfl rfl ?_
  refine RL.nil ?_
  refine NQ.seq ?_
  refine CW.condT rfl (rfl) ?_
  refine CW.seq ?_
  refine CW.region (ef := [1]) (bk := [1]) ?_
  refine RL.buildS (fr0.cells (.slice none 0 0)) Try.zeroValue34 pl_34 rfl rfl rfl rfl rfl ?_
  refine RL.storeW Try.sizeOf34 rfl rfl rfl rfl rfl rfl rfl (ones_fr _ rfl) (by repeat (first | exact Upd.here | apply Upd.there)) rfl rfl ?_
  refine RL.assign rfl rfl rfl rfl ?_
  refine RL.nil ?_
  refine NQ.seq ?_
  refine CW.ret ?_
  refine RQ.seq ?_
  exact RQ.post (resWT rfl rfl rfl Try.isAgg34 Try.sizeOf34 (List.Mem.head _) rfl) (Split.none _) ⟨rfl, rfl, rfl⟩
theorem places_nil : Spc Try.prog 24 #[.pointer none] [] [] (Is (.slice none 0 0)) := by
  refine Spc.enter Try.func24 rfl rfl rfl (fun w0 hw0 => ?_)
  refine CW.seq ?_
  refine CW.region (ef := []) (bk := []) ?_
  refine RL.assign rfl rfl rfl rfl ?_
  refine RL.nil ?_
  refine NQ.seq ?_
  refine CW.seq ?_
  refine CW.region (ef := []) (bk := []) ?_
  refine RL.assign rfl rfl rfl rfl ?_
  refine RL.nil ?_
  refine NQ.seq ?_
  refine CW.seq ?_
  refine CW.seq ?_
  refine CW.region (ef := []) (bk := []) ?_
  refine RL.move rfl rfl rfl rfl ?_
  refine RL.callvq (qis_nil) Try.call36 rfl rfl rfl rfl ?_
  refine RL.not rfl rfl rfl rfl ?_
  refine RL.nil ?_
  refine NQ.seq ?_
  refine CW.condT rfl (rfl) ?_
  refine CW.seq ?_
  refine CW.region (ef := []) (bk := []) ?_
  refine RL.move rfl rfl rfl rfl ?_
  refine RL.assign rfl rfl rfl rfl ?_
  refine RL.nil ?_
  refine NQ.seq ?_
  refine CW.ret ?_
  refine RQ.seq ?_
  exact RQ.post (res1 rfl rfl) (Split.none _) ⟨rfl, rfl, rfl⟩
theorem qlen_nil : Spc Try.prog 17 #[.pointer none] [] [] (Is (.int .i64 0)) := by
  refine Spc.enter Try.func17 rfl rfl rfl (fun w0 hw0 => ?_)
  refine CW.seq ?_
  refine CW.region (ef := []) (bk := []) ?_
  refine RL.assign rfl rfl rfl rfl ?_
  refine RL.nil ?_
  refine NQ.seq ?_
  refine CW.seq ?_
  refine CW.seq ?_
  refine CW.region (ef := []) (bk := []) ?_
  refine RL.move rfl rfl rfl rfl ?_
  refine RL.callvq (qis_nil) Try.call36 rfl rfl rfl rfl ?_
  refine RL.not rfl rfl rfl rfl ?_
  refine RL.nil ?_
  refine NQ.seq ?_
  refine CW.condT rfl (rfl) ?_
  refine CW.seq ?_
  refine CW.region (ef := []) (bk := []) ?_
  refine RL.assign rfl rfl rfl rfl ?_
  refine RL.nil ?_
  refine NQ.seq ?_
  refine CW.ret ?_
  refine RQ.seq ?_
  exact RQ.post (res1 rfl rfl) (Split.none _) ⟨rfl, rfl, rfl⟩
theorem qtake_nil (iv : Int) : Spc Try.prog 11 #[.pointer none, .int .u32 iv] [] [] (Is (.slice none 0 0)) := by
  refine Spc.enter Try.func11 rfl rfl rfl (fun w0 hw0 => ?_)
  refine CW.seq ?_
  refine CW.region (ef := []) (bk := []) ?_
  refine RL.assign rfl rfl rfl rfl ?_
  refine RL.nil ?_
  refine NQ.seq ?_
  refine CW.seq ?_
  refine CW.region (ef := []) (bk := []) ?_
  refine RL.assign rfl rfl rfl rfl ?_
  refine RL.nil ?_
  refine NQ.seq ?_
  refine CW.seq ?_
  refine CW.seq ?_
  refine CW.region (ef := []) (bk := []) ?_
  refine RL.move rfl rfl rfl rfl ?_
  refine RL.callvq (places_nil) Try.call24 rfl rfl rfl rfl ?_
  refine RL.lenS Try.runUnderlying61 rfl rfl rfl rfl ?_
  refine RL.move rfl rfl rfl rfl ?_
  refine RL.nil ?_
  refine NQ.seq ?_
  refine CW.block ?_
  refine CW.loop (γ := Unit) (fun _ => True) (fun _ => [(0, .pointer none), (1, .int .u32 iv), (5, .slice none 0 0), (9, .slice none 0 0), (10, .int .i64 ((0 : Nat) : Int)), (11, .int .i64 0)]) (fun _ => []) (fun _ => []) (fun _ => 0) () trivial (.cons rfl (.cons rfl (.cons rfl (.cons rfl (.cons rfl (.cons rfl .nil)))))) (fun w h => h) ?_
  rintro ⟨⟩ -
  refine CW.seq ?_
  refine CW.region (ef := []) (bk := []) ?_
  refine RL.bin rfl rfl rfl rfl rfl rfl ?_
  refine RL.nil ?_
  refine NQ.seq ?_
  refine CW.seq ?_
  refine CW.condF rfl (rfl) ?_
  refine CW.exit ?_
  refine XQ.seq ?_
  refine XQ.seq ?_
  refine XQ.hit ?_
  refine NQ.seq ?_
  refine CW.only (.cons (k := 5) rfl .nil) ?_
  refine CW.seq ?_
  refine CW.region (ef := []) (bk := []) ?_
  refine RL.move rfl rfl rfl rfl ?_
  refine RL.assign rfl rfl rfl rfl ?_
  refine RL.nil ?_
  refine NQ.seq ?_
  refine CW.ret ?_
  exact RQ.post (res1 rfl rfl) (Split.none _) ⟨rfl, rfl, rfl⟩
theorem qdrop_nil (iv : Int) : Spc Try.prog 14 #[.pointer none, .int .u32 iv] [] [] (Is (.int .i64 0)) := by
  refine Spc.enter Try.func14 rfl rfl rfl (fun w0 hw0 => ?_)
  refine CW.seq ?_
  refine CW.region (ef := []) (bk := []) ?_
  refine RL.assign rfl rfl rfl rfl ?_
  refine RL.nil ?_
  refine NQ.seq ?_
  refine CW.seq ?_
  refine CW.seq ?_
  refine CW.region (ef := []) (bk := []) ?_
  refine RL.move rfl rfl rfl rfl ?_
  refine RL.bin rfl rfl rfl rfl rfl rfl ?_
  refine RL.nil ?_
  refine NQ.seq ?_
  refine CW.cond rfl (fun h => ?_) (fun h => ?_)
  ·
    refine CW.seq ?_
    refine CW.region (ef := []) (bk := []) ?_
    refine RL.assign rfl rfl rfl rfl ?_
    refine RL.nil ?_
    refine NQ.seq ?_
    refine CW.ret ?_
    refine RQ.seq ?_
    exact RQ.post (res1 rfl rfl) (Split.none _) ⟨rfl, rfl, rfl⟩
  ·
    refine CW.skip ?_
    refine NQ.seq ?_
    refine CW.seq ?_
    refine CW.region (ef := []) (bk := []) ?_
    refine RL.move rfl rfl rfl rfl ?_
    refine RL.move rfl rfl rfl rfl ?_
    refine RL.bin rfl rfl rfl rfl rfl rfl ?_
    refine RL.callvq (qtake_nil  (IntKind.u32.wrap (iv - 1))) Try.call11 rfl rfl rfl rfl ?_
    refine RL.lenS Try.runUnderlying38 rfl rfl rfl rfl ?_
    refine RL.assign rfl rfl rfl rfl ?_
    refine RL.nil ?_
    refine NQ.seq ?_
    refine CW.only (.cons (k := 4) rfl .nil) ?_
    refine CW.ret ?_
    exact RQ.post (res1 rfl rfl) (Split.none _) ⟨rfl, rfl, rfl⟩
theorem qis_zero (b : Nat): Spc Try.prog 36 #[.pointer (some ⟨b, 0, none⟩)] [zBuf b] [] (Is (.bool false)) := by
  refine Spc.enter Try.func36 rfl rfl rfl (fun w0 hw0 => ?_)
  refine CW.seq ?_
  refine CW.region (ef := []) (bk := []) ?_
  refine RL.assign rfl rfl rfl rfl ?_
  refine RL.nil ?_
  refine NQ.seq ?_
  refine CW.seq ?_
  refine CW.region (ef := []) (bk := []) ?_
  refine RL.move rfl rfl rfl rfl ?_
  refine RL.cmp rfl rfl rfl rfl rfl (neq_ptr Try.runUnderlying24 _) ?_
  refine RL.move rfl rfl rfl rfl ?_
  refine RL.move rfl rfl rfl rfl ?_
  refine RL.nilCheck rfl rfl rfl rfl ?_
  refine RL.fieldAddr fa_68_0 rfl rfl rfl rfl ?_
  refine RL.loadq Try.isAgg66 rfl rfl rfl rfl ?_
  refine RL.cmp rfl rfl rfl rfl rfl (neq_map Try.runUnderlying66 _) ?_
  refine RL.pickT rfl rfl rfl rfl rfl ?_
  refine RL.assign rfl rfl rfl rfl ?_
  refine RL.nil ?_
  refine NQ.seq ?_
  refine CW.only (.cons (k := 2) rfl .nil) ?_
  refine CW.ret ?_
  exact RQ.post (res1 rfl rfl) (Split.none _) ⟨rfl, rfl, rfl⟩
theorem qput_zero (b : Nat)(p : Pq) (f : Fr) (q : Option Addr) (cc n : Nat) (hf : f.Ok) : Spc Try.prog 15 #[.pointer (some ⟨b, 0, none⟩), .agg #[.int .u32 p.1, .int .u8 p.2], .agg (f.cells (.slice q n cc)).toArray] [zBuf b] [] (Is (.int .i64 1)) := by
  have hl := fr_len hf.tag (.slice q n cc)
  refine Spc.enter Try.func15 rfl rfl rfl (fun w0 hw0 => ?_)
  refine CW.seq ?_
  refine CW.region (ef := [0, 1]) (bk := []) ?_
  refine RL.box rfl rfl rfl rfl rfl rfl ?_
  intro b1
  refine RL.box rfl rfl rfl rfl rfl rfl ?_
  intro b2
  refine RL.assign rfl rfl rfl rfl ?_
  refine RL.nil ?_
  refine NQ.seq ?_
  refine CW.seq ?_
  refine CW.block ?_
  refine CW.seq ?_
  refine CW.region (ef := []) (bk := []) ?_
  refine RL.move rfl rfl rfl rfl ?_
  refine RL.callvq (qis_zero b) Try.call36 rfl rfl rfl rfl ?_
  refine RL.not rfl rfl rfl rfl ?_
  refine RL.assign rfl rfl rfl rfl ?_
  refine RL.nil ?_
  refine NQ.seq ?_
  refine CW.condT rfl (rfl) ?_
  refine CW.seq ?_
  refine CW.region (ef := []) (bk := []) ?_
  refine RL.assign rfl rfl rfl rfl ?_
  refine RL.nil ?_
  refine NQ.seq ?_
  refine CW.only (.cons (k := 0) rfl (.cons (k := 4) rfl (.cons (k := 5) rfl (.cons (k := 6) rfl .nil)))) ?_
  refine CW.ret ?_
  refine RQ.block ?_
  refine RQ.seq ?_
  exact RQ.post (res1 rfl rfl) (Split.none _) ⟨rfl, rfl, rfl⟩
theorem qget_zero (b : Nat)(p : Pq) : Spc Try.prog 22 #[.pointer (some ⟨b, 0, none⟩), .agg #[.int .u32 p.1, .int .u8 p.2]] [zBuf b] [] (Is (.tuple #[.agg (fr0.cells (.slice none 0 0)).toArray, .bool false])) := by
  refine Spc.enter Try.func22 rfl rfl rfl (fun w0 hw0 => ?_)
  refine CW.seq ?_
  refine CW.region (ef := [0, 1]) (bk := []) ?_
  refine RL.box rfl rfl rfl rfl rfl rfl ?_
  intro b1
  refine RL.alloc Try.zeroValue34 rfl rfl rfl rfl rfl ?_
  intro b2
  refine RL.assign rfl rfl rfl rfl ?_
  refine RL.nil ?_
  refine NQ.seq ?_
  refine CW.seq ?_
  refine CW.seq ?_
  refine CW.region (ef := []) (bk := []) ?_
  refine RL.move rfl rfl rfl rfl ?_
  refine RL.callvq (qis_zero b) Try.call36 rfl rfl rfl rfl ?_
  refine RL.not rfl rfl rfl rfl ?_
  refine RL.nil ?_
  refine NQ.seq ?_
  refine CW.condT rfl (rfl) ?_
  refine CW.seq ?_
  refine CW.region (ef := [1]) (bk := [1]) ?_
  refine RL.buildS (fr0.cells (.slice none 0 0)) Try.zeroValue34 pl_34 rfl rfl rfl rfl rfl ?_
  refine RL.storeW Try.sizeOf34 rfl rfl rfl rfl rfl rfl rfl (ones_fr _ rfl) (by repeat (first | exact Upd.here | apply Upd.there)) rfl rfl ?_
  refine RL.assign rfl rfl rfl rfl ?_
  refine RL.nil ?_
  refine NQ.seq ?_
  refine CW.ret ?_
  refine RQ.seq ?_
  exact RQ.post (resWT rfl rfl rfl Try.isAgg34 Try.sizeOf34 (List.Mem.head _) rfl) (Split.none _) ⟨rfl, rfl, rfl⟩
theorem places_zero (b : Nat): Spc Try.prog 24 #[.pointer (some ⟨b, 0, none⟩)] [zBuf b] [] (Is (.slice none 0 0)) := by
  refine Spc.enter Try.func24 rfl rfl rfl (fun w0 hw0 => ?_)
  refine CW.seq ?_
  refine CW.region (ef := []) (bk := []) ?_
  refine RL.assign rfl rfl rfl rfl ?_
  refine RL.nil ?_
  refine NQ.seq ?_
  refine CW.seq ?_
  refine CW.region (ef := []) (bk := []) ?_
  refine RL.assign rfl rfl rfl rfl ?_
  refine RL.nil ?_
  refine NQ.seq ?_
  refine CW.seq ?_
  refine CW.seq ?_
  refine CW.region (ef := []) (bk := []) ?_
  refine RL.move rfl rfl rfl rfl ?_
  refine RL.callvq (qis_zero b) Try.call36 rfl rfl rfl rfl ?_
  refine RL.not rfl rfl rfl rfl ?_
  refine RL.nil ?_
  refine NQ.seq ?_
  refine CW.condT rfl (rfl) ?_
  refine CW.seq ?_
  refine CW.region (ef := []) (bk := []) ?_
  refine RL.move rfl rfl rfl rfl ?_
  refine RL.assign rfl rfl rfl rfl ?_
  refine RL.nil ?_
  refine NQ.seq ?_
  refine CW.ret ?_
  refine RQ.seq ?_
  exact RQ.post (res1 rfl rfl) (Split.none _) ⟨rfl, rfl, rfl⟩
theorem qlen_zero (b : Nat): Spc Try.prog 17 #[.pointer (some ⟨b, 0, none⟩)] [zBuf b] [] (Is (.int .i64 0)) := by
  refine Spc.enter Try.func17 rfl rfl rfl (fun w0 hw0 => ?_)
  refine CW.seq ?_
  refine CW.region (ef := []) (bk := []) ?_
  refine RL.assign rfl rfl rfl rfl ?_
  refine RL.nil ?_
  refine NQ.seq ?_
  refine CW.seq ?_
  refine CW.seq ?_
  refine CW.region (ef := []) (bk := []) ?_
  refine RL.move rfl rfl rfl rfl ?_
  refine RL.callvq (qis_zero b) Try.call36 rfl rfl rfl rfl ?_
  refine RL.not rfl rfl rfl rfl ?_
  refine RL.nil ?_
  refine NQ.seq ?_
  refine CW.condT rfl (rfl) ?_
  refine CW.seq ?_
  refine CW.region (ef := []) (bk := []) ?_
  refine RL.assign rfl rfl rfl rfl ?_
  refine RL.nil ?_
  refine NQ.seq ?_
  refine CW.ret ?_
  refine RQ.seq ?_
  exact RQ.post (res1 rfl rfl) (Split.none _) ⟨rfl, rfl, rfl⟩
theorem qtake_zero (b : Nat)(iv : Int) : Spc Try.prog 11 #[.pointer (some ⟨b, 0, none⟩), .int .u32 iv] [zBuf b] [] (Is (.slice none 0 0)) := by
  refine Spc.enter Try.func11 rfl rfl rfl (fun w0 hw0 => ?_)
  refine CW.seq ?_
  refine CW.region (ef := []) (bk := []) ?_
  refine RL.assign rfl rfl rfl rfl ?_
  refine RL.nil ?_
  refine NQ.seq ?_
  refine CW.seq ?_
  refine CW.region (ef := []) (bk := []) ?_
  refine RL.assign rfl rfl rfl rfl ?_
  refine RL.nil ?_
  refine NQ.seq ?_
  refine CW.seq ?_
  refine CW.seq ?_
  refine CW.region (ef := []) (bk := []) ?_
  refine RL.move rfl rfl rfl rfl ?_
  refine RL.callvq (places_zero b) Try.call24 rfl rfl rfl rfl ?_
  refine RL.lenS Try.runUnderlying61 rfl rfl rfl rfl ?_
  refine RL.move rfl rfl rfl rfl ?_
  refine RL.nil ?_
  refine NQ.seq ?_
  refine CW.block ?_
  refine CW.loop (γ := Unit) (fun _ => True) (fun _ => [(0, .pointer (some ⟨b, 0, none⟩)), (1, .int .u32 iv), (5, .slice none 0 0), (9, .slice none 0 0), (10, .int .i64 ((0 : Nat) : Int)), (11, .int .i64 0)]) (fun _ => [zBuf b]) (fun _ => []) (fun _ => 0) () trivial (.cons rfl (.cons rfl (.cons rfl (.cons rfl (.cons rfl (.cons rfl .nil)))))) (fun w h => h) ?_
  rintro ⟨⟩ -
  refine CW.seq ?_
  refine CW.region (ef := []) (bk := []) ?_
  refine RL.bin rfl rfl rfl rfl rfl rfl ?_
  refine RL.nil ?_
  refine NQ.seq ?_
  refine CW.seq ?_
  refine CW.condF rfl (rfl) ?_
  refine CW.exit ?_
  refine XQ.seq ?_
  refine XQ.seq ?_
  refine XQ.hit ?_
  refine NQ.seq ?_
  refine CW.only (.cons (k := 5) rfl .nil) ?_
  refine CW.seq ?_
  refine CW.region (ef := []) (bk := []) ?_
  refine RL.move rfl rfl rfl rfl ?_
  refine RL.assign rfl rfl rfl rfl ?_
  refine RL.nil ?_
  refine NQ.seq ?_
  refine CW.ret ?_
  exact RQ.post (res1 rfl rfl) (Split.none _) ⟨rfl, rfl, rfl⟩
theorem qdrop_zero (b : Nat)(iv : Int) : Spc Try.prog 14 #[.pointer (some ⟨b, 0, none⟩), .int .u32 iv] [zBuf b] [] (Is (.int .i64 0)) := by
  refine Spc.enter Try.func14 rfl rfl rfl (fun w0 hw0 => ?_)
  refine CW.seq ?_
  refine CW.region (ef := []) (bk := []) ?_
  refine RL.assign rfl rfl rfl rfl ?_
  refine RL.nil ?_
  refine NQ.seq ?_
  refine CW.seq ?_
  refine CW.seq ?_
  refine CW.region (ef := []) (bk := []) ?_
  refine RL.move rfl rfl rfl rfl ?_
  refine RL.bin rfl rfl rfl rfl rfl rfl ?_
  refine RL.nil ?_
  refine NQ.seq ?_
  refine CW.cond rfl (fun h => ?_) (fun h => ?_)
  ·
    refine CW.seq ?_
    refine CW.region (ef := []) (bk := []) ?_
    refine RL.assign rfl rfl rfl rfl ?_
    refine RL.nil ?_
    refine NQ.seq ?_
    refine CW.ret ?_
    refine RQ.seq ?_
    exact RQ.post (res1 rfl rfl) (Split.none _) ⟨rfl, rfl, rfl⟩
  ·
    refine CW.skip ?_
    refine NQ.seq ?_
    refine CW.seq ?_
    refine CW.region (ef := []) (bk := []) ?_
    refine RL.move rfl rfl rfl rfl ?_
    refine RL.move rfl rfl rfl rfl ?_
    refine RL.bin rfl rfl rfl rfl rfl rfl ?_
    refine RL.callvq (qtake_zero b (IntKind.u32.wrap (iv - 1))) Try.call11 rfl rfl rfl rfl ?_
    refine RL.lenS Try.runUnderlying38 rfl rfl rfl rfl ?_
    refine RL.assign rfl rfl rfl rfl ?_
    refine RL.nil ?_
    refine NQ.seq ?_
    refine CW.only (.cons (k := 4) rfl .nil) ?_
    refine CW.ret ?_
    exact RQ.post (res1 rfl rfl) (Split.none _) ⟨rfl, rfl, rfl⟩
/-! ### Readers -/
structure Act20 where
  d : Int
  p : Pq
  x : FrA
def Act20.cells (a : Act20) : List Value := .int .i64 a.d :: .int .u32 a.p.1 :: .int .u8 a.p.2 :: a.x.f.cells a.x.sl
structure Act20.Ok (a : Act20) : Prop where
  x : a.x.Ok
  p1 : 0 ≤ a.p.1 ∧ a.p.1 ≤ 4294967295
  p2 : 0 ≤ a.p.2 ∧ a.p.2 ≤ 255
theorem act20_len {a : Act20} (h : a.Ok) : a.cells.length = 24 := by
  have := fr_len h.x.f.tag a.x.sl
  simp [Act20.cells, this]
abbrev Act20.its (a : Act20) : List It := [sls a.x.p 1 a.x.f.b.length (bytes a.x.f.b)]
noncomputable def rU8i : Rdr Try.prog 5 Int := Rdr.int .u8 (by kernel_rfl) (by kernel_rfl)
set_option maxRecDepth 100000
noncomputable def rPlq : Rdr Try.prog 28 Pq :=
  Rdr.struct (fs := [Field.mk "Interval" 26 0 false "" "" 0, Field.mk "Seq" 5 1 false "" "" 4].toArray) (tot := 2) (α := Int × Int × Unit)
    (by kernel_rfl) (by kernel_rfl)
    (.cons (k := 1) rU32 rfl (by kernel_rfl) (by decide) (.cons (k := 1) rU8i rfl (by kernel_rfl) (by decide) .nil))
    (fun p => plcq p) (fun _ => []) (fun p => (0 ≤ p.1 ∧ p.1 ≤ 4294967295) ∧ (0 ≤ p.2 ∧ p.2 ≤ 255))
    (fun ⟨e, c, _⟩ h => by
      obtain ⟨h3, h4, -⟩ := h
      exact ⟨(e, c), rfl, ⟨wfk_bounds h3, wfk_bounds h4⟩, by simp⟩)
    (fun _ _ => rfl)
noncomputable def rAct20 : Rdr Try.prog 36 Act20 :=
  Rdr.struct (fs := [Field.mk "Do" 3 0 false "" "" 0, Field.mk "At" 28 1 false "" "" 8, Field.mk "F" 34 3 false "" "" 16].toArray) (tot := 24) (α := Int × Pq × FrA × Unit)
    (by kernel_rfl) (by kernel_rfl)
    (.cons (k := 1) rInt rfl (by kernel_rfl) (by decide) (.cons (k := 2) rPlq rfl (by kernel_rfl) (by decide) (.cons (k := 21) rFr rfl (by kernel_rfl) (by decide) .nil)))
    Act20.cells Act20.its Act20.Ok
    (fun ⟨d, p, x, _⟩ h => by
      obtain ⟨h1, h2, h3, -⟩ := h
      refine ⟨⟨d, p, x⟩, ?_, ⟨h3, h2.1, h2.2⟩, ?_⟩
      · show _ = [Value.int .i64 d] ++ (plcq p ++ (x.f.cells x.sl ++ []))
        simp [Act20.cells, plcq]
      · intro y hy
        rw [List.mem_singleton.1 hy]
        simp [Flds.cons, rFr, rPlq, Rdr.struct])
    (fun _ h => act20_len h)
noncomputable def rActs20 : Rdr Try.prog 22 (Sl Act20) := rAct20.slice 24 (by kernel_rfl) (by kernel_rfl) (by kernel_rfl) (by decide) (List.flatMap Act20.cells) (fun _ => rfl)
theorem qvoid (a : Act20) (ha : a.Ok) : Spc Try.prog 5 #[.agg a.cells.toArray] a.its [] (Is (.bool true)) := by
  have hal := act20_len ha
  have hfl := fr_len ha.x.f.tag a.x.sl
  have hfk : (a.x.f.few 40).Ok := ⟨ha.x.f.ep, ha.x.f.ct, ha.x.f.tag⟩
  refine Spc.enter Try.func5 rfl rfl rfl (fun w0 hw0 => ?_)
  refine CW.seq ?_
  refine CW.region (ef := [0]) (bk := []) ?_
  refine RL.box rfl rfl rfl rfl rfl rfl ?_
  intro b1
  refine RL.assign rfl rfl rfl rfl ?_
  refine RL.nil ?_
  refine NQ.seq ?_
  refine CW.seq ?_
  refine CW.seq ?_
  refine CW.freezeP (A := [_]) (B := []) (.take .nil) rfl ?_
  refine CW.genI (fun J hJ => ?_)
  have mA : cel b1 a.cells 36 ∈ J := hJ _ (by simp)
  have mS : sls a.x.p 1 a.x.f.b.length (bytes a.x.f.b) ∈ J := hJ _ (by simp)
  have rP : RdsN J ⟨b1, 0 + 1, none⟩ 2 [.int .u32 a.p.1, .int .u8 a.p.2] := RdsN.told mA (fun j u hj => by
    match j, hj with
    | 0, hj => exact hj
    | 1, hj => exact hj
    | j + 2, hj => simp at hj) rfl
  have rF : RdsN J ⟨b1, 0 + 3, none⟩ 21 (a.x.f.cells a.x.sl) := RdsN.told mA (fun j u hj => by rw [show 0 + 3 + j = j + 1 + 1 + 1 by omega]; exact hj) hfl
  clear hJ
  refine CW.region (ef := []) (bk := []) ?_
  refine RL.callvq (works20) Try.call8 rfl rfl rfl rfl ?_
  refine RL.not rfl rfl rfl rfl ?_
  refine RL.nil ?_
  refine NQ.seq ?_
  refine CW.condF rfl (rfl) ?_
  refine CW.skip ?_
  refine NQ.seq ?_
  refine CW.seq ?_
  refine CW.region (ef := []) (bk := []) ?_
  refine RL.assign rfl rfl rfl rfl ?_
  refine RL.nil ?_
  refine NQ.seq ?_
  refine CW.seq ?_
  refine CW.region (ef := [0]) (bk := []) ?_
  refine RL.alloc Try.zeroValue68 rfl rfl rfl rfl rfl ?_
  intro b2
  refine RL.nil ?_
  refine NQ.seq ?_
  refine CW.seq ?_
  refine CW.region (ef := [7, 8]) (bk := [8]) ?_
  refine RL.move rfl rfl rfl rfl ?_
  refine RL.fieldAddr fa_36_1 rfl rfl rfl rfl ?_
  first | refine RL.loadM Try.isAgg28 Try.sizeOf28 rfl rfl rfl rfl (by assumption) ?_ | refine RL.loadA Try.isAgg28 Try.sizeOf28 rfl rfl rfl rfl (by first | assumption | (apply RdsI.rds; assumption)) (by first | rfl | assumption | (simp only [List.length_map]; assumption) | (simp only [List.length_map, List.length_replicate, hal]; done) | (simp; done)) ?_ | refine RL.loadW Try.isAgg28 Try.sizeOf28 rfl rfl rfl rfl (by (solve | (repeat (first | exact List.Mem.head _ | apply List.Mem.tail)))) (by first | rfl | assumption | (simp only [List.length_map]; assumption) | (simp only [List.length_map, List.length_replicate, hal]; done) | (simp; done)) ?_
  refine RL.callvq (qget_nil a.p) Try.call22 rfl rfl rfl rfl ?_
  refine RL.move rfl rfl rfl rfl ?_
  refine RL.extract rfl rfl rfl rfl rfl ?_
  refine RL.extract rfl rfl rfl rfl rfl ?_
  refine RL.alloc Try.zeroValue34 rfl rfl rfl rfl rfl ?_
  intro b3
  refine RL.storeW Try.sizeOf34 rfl rfl rfl rfl rfl rfl rfl (ones_fr _ rfl) (by repeat (first | exact Upd.here | apply Upd.there)) rfl rfl ?_
  refine RL.assign rfl rfl rfl rfl ?_
  refine RL.nil ?_
  refine NQ.seq ?_
  refine CW.only (.cons (k := 1) rfl (.cons (k := 3) rfl (.cons (k := 4) rfl (.cons (k := 6) rfl .nil)))) ?_
  refine CW.seq ?_
  refine CW.region (ef := [6, 7]) (bk := [7]) ?_
  refine RL.fieldAddr fa_36_1 rfl rfl rfl rfl ?_
  first | refine RL.loadM Try.isAgg28 Try.sizeOf28 rfl rfl rfl rfl (by assumption) ?_ | refine RL.loadA Try.isAgg28 Try.sizeOf28 rfl rfl rfl rfl (by first | assumption | (apply RdsI.rds; assumption)) (by first | rfl | assumption | (simp only [List.length_map]; assumption) | (simp only [List.length_map, List.length_replicate, hal]; done) | (simp; done)) ?_ | refine RL.loadW Try.isAgg28 Try.sizeOf28 rfl rfl rfl rfl (by (solve | (repeat (first | exact List.Mem.head _ | apply List.Mem.tail)))) (by first | rfl | assumption | (simp only [List.length_map]; assumption) | (simp only [List.length_map, List.length_replicate, hal]; done) | (simp; done)) ?_
  refine RL.callvq (qget_zero b2 a.p) Try.call22 rfl rfl rfl rfl ?_
  refine RL.move rfl rfl rfl rfl ?_
  refine RL.extract rfl rfl rfl rfl rfl ?_
  refine RL.extract rfl rfl rfl rfl rfl ?_
  refine RL.alloc Try.zeroValue34 rfl rfl rfl rfl rfl ?_
  intro b4
  refine RL.storeW Try.sizeOf34 rfl rfl rfl rfl rfl rfl rfl (ones_fr _ rfl) (by repeat (first | exact Upd.here | apply Upd.there)) rfl rfl ?_
  refine RL.assign rfl rfl rfl rfl ?_
  refine RL.nil ?_
  refine NQ.seq ?_
  refine CW.only (.cons (k := 1) rfl (.cons (k := 3) rfl (.cons (k := 4) rfl (.cons (k := 6) rfl (.cons (k := 8) rfl .nil))))) ?_
  refine CW.seq ?_
  refine CW.regionD (Sq.of [0, 1, 2, 3, 4, 5, 6, 7, 8, 9, 10, 11, 12, 13, 14, 15, 16, 17, 18, 19, 20, 21, 22, 23, 24, 25, 26, 27, 28, 29, 30, 31, 32, 33, 34, 35, 36, 37, 38, 39, 40, 41, 42, 43, 44, 45, 46, 47, 48, 49, 50, 51]) [5, 13] [] [0, 1, 3, 7, 8, 9, 11, 15, 16, 17, 18, 19, 20, 21, 22, 23, 24, 25, 26, 28, 30, 31, 32, 34, 35, 37, 38, 39, 41, 43, 44, 46, 48, 49, 50, 51] mixed (by kernel_rfl) ?_
  refine RL.move rfl rfl rfl rfl ?_
  refine RL.fieldAddr fa_36_1 rfl rfl rfl rfl ?_
  first | refine RL.loadM Try.isAgg28 Try.sizeOf28 rfl rfl rfl rfl (by assumption) ?_ | refine RL.loadA Try.isAgg28 Try.sizeOf28 rfl rfl rfl rfl (by first | assumption | (apply RdsI.rds; assumption)) (by first | rfl | assumption | (simp only [List.length_map]; assumption) | (simp only [List.length_map, List.length_replicate, hal]; done) | (simp; done)) ?_ | refine RL.loadW Try.isAgg28 Try.sizeOf28 rfl rfl rfl rfl (by (solve | (repeat (first | exact List.Mem.head _ | apply List.Mem.tail)))) (by first | rfl | assumption | (simp only [List.length_map]; assumption) | (simp only [List.length_map, List.length_replicate, hal]; done) | (simp; done)) ?_
  refine RL.fieldAddr fa_36_2 rfl rfl rfl rfl ?_
  first | refine RL.loadM Try.isAgg34 Try.sizeOf34 rfl rfl rfl rfl (by assumption) ?_ | refine RL.loadA Try.isAgg34 Try.sizeOf34 rfl rfl rfl rfl (by first | assumption | (apply RdsI.rds; assumption)) (by first | rfl | assumption | (simp only [List.length_map]; assumption) | (simp only [List.length_map, List.length_replicate, hal]; done) | (simp; done)) ?_ | refine RL.loadW Try.isAgg34 Try.sizeOf34 rfl rfl rfl rfl (by (solve | (repeat (first | exact List.Mem.head _ | apply List.Mem.tail)))) (by first | rfl | assumption | (simp only [List.length_map]; assumption) | (simp only [List.length_map, List.length_replicate, hal]; done) | (simp; done)) ?_
  refine RL.call (few20_any a.x.f a.x.p a.x.c a.x.f.b.length ha.x.f rfl ha.x.c ha.x.b) Try.call16 rfl rfl rfl rfl rfl (by repeat (first | exact Pick.nil | apply Pick.take | apply Pick.leave)) (Lend.inI mS .nil) (.inl rfl) ?_
  rintro _ _ _ ⟨ob1, cap1, rfl, rfl, rfl, ho1⟩
  refine RL.callvq (qput_nil a.p (a.x.f.few 40) _ _ _ hfk) Try.call15 rfl rfl rfl rfl ?_
  refine RL.bin rfl rfl rfl rfl rfl rfl ?_
  refine RL.move rfl rfl rfl rfl ?_
  refine RL.cast (d := 32) (v' := .bool true) rfl (rfl) ?_
  refine RL.fieldAddr fa_36_1 rfl rfl rfl rfl ?_
  first | refine RL.loadM Try.isAgg28 Try.sizeOf28 rfl rfl rfl rfl (by assumption) ?_ | refine RL.loadA Try.isAgg28 Try.sizeOf28 rfl rfl rfl rfl (by first | assumption | (apply RdsI.rds; assumption)) (by first | rfl | assumption | (simp only [List.length_map]; assumption) | (simp only [List.length_map, List.length_replicate, hal]; done) | (simp; done)) ?_ | refine RL.loadW Try.isAgg28 Try.sizeOf28 rfl rfl rfl rfl (by (solve | (repeat (first | exact List.Mem.head _ | apply List.Mem.tail)))) (by first | rfl | assumption | (simp only [List.length_map]; assumption) | (simp only [List.length_map, List.length_replicate, hal]; done) | (simp; done)) ?_
  refine RL.fieldAddr fa_36_2 rfl rfl rfl rfl ?_
  first | refine RL.loadM Try.isAgg34 Try.sizeOf34 rfl rfl rfl rfl (by assumption) ?_ | refine RL.loadA Try.isAgg34 Try.sizeOf34 rfl rfl rfl rfl (by first | assumption | (apply RdsI.rds; assumption)) (by first | rfl | assumption | (simp only [List.length_map]; assumption) | (simp only [List.length_map, List.length_replicate, hal]; done) | (simp; done)) ?_ | refine RL.loadW Try.isAgg34 Try.sizeOf34 rfl rfl rfl rfl (by (solve | (repeat (first | exact List.Mem.head _ | apply List.Mem.tail)))) (by first | rfl | assumption | (simp only [List.length_map]; assumption) | (simp only [List.length_map, List.length_replicate, hal]; done) | (simp; done)) ?_
  refine RL.call (few20_any a.x.f a.x.p a.x.c a.x.f.b.length ha.x.f rfl ha.x.c ha.x.b) Try.call16 rfl rfl rfl rfl rfl (by repeat (first | exact Pick.nil | apply Pick.take | apply Pick.leave)) (Lend.inI mS .nil) (.inl rfl) ?_
  rintro _ _ _ ⟨ob2, cap2, rfl, rfl, rfl, ho2⟩
  refine RL.callvq (qput_zero b2 a.p (a.x.f.few 40) _ _ _ hfk) Try.call15 rfl rfl rfl rfl ?_
  refine RL.bin rfl rfl rfl rfl rfl rfl ?_
  refine RL.pickT rfl rfl rfl rfl rfl ?_
  refine RL.move rfl rfl rfl rfl ?_
  refine RL.cast (d := 41) (v' := .bool true) rfl (rfl) ?_
  refine RL.move rfl rfl rfl rfl ?_
  refine RL.not rfl rfl rfl rfl ?_
  refine RL.pickT rfl rfl rfl rfl rfl ?_
  refine RL.move rfl rfl rfl rfl ?_
  refine RL.cast (d := 45) (v' := .bool true) rfl (rfl) ?_
  refine RL.move rfl rfl rfl rfl ?_
  refine RL.not rfl rfl rfl rfl ?_
  refine RL.pickT rfl rfl rfl rfl rfl ?_
  refine RL.move rfl rfl rfl rfl ?_
  refine RL.cast (d := 49) (v' := .bool true) rfl (rfl) ?_
  refine RL.move rfl rfl rfl rfl ?_
  refine RL.callvq (qtake_nil 9) Try.call11 rfl rfl rfl rfl ?_
  refine RL.lenS Try.runUnderlying38 rfl rfl rfl rfl ?_
  refine RL.callvq (qtake_zero b2 9) Try.call11 rfl rfl rfl rfl ?_
  refine RL.lenS Try.runUnderlying38 rfl rfl rfl rfl ?_
  refine RL.binX rfl rfl rfl rfl rfl rfl (wrapV_i64 (by omega) (by omega)) ?_
  refine RL.move rfl rfl rfl rfl ?_
  refine RL.callvq (places_nil) Try.call24 rfl rfl rfl rfl ?_
  refine RL.lenS Try.runUnderlying61 rfl rfl rfl rfl ?_
  refine RL.binX rfl rfl rfl rfl rfl rfl (wrapV_i64 (by omega) (by omega)) ?_
  refine RL.callvq (places_zero b2) Try.call24 rfl rfl rfl rfl ?_
  refine RL.lenS Try.runUnderlying61 rfl rfl rfl rfl ?_
  refine RL.binX rfl rfl rfl rfl rfl rfl (wrapV_i64 (by omega) (by omega)) ?_
  refine RL.move rfl rfl rfl rfl ?_
  refine RL.callvq (qlen_nil) Try.call17 rfl rfl rfl rfl ?_
  refine RL.binX rfl rfl rfl rfl rfl rfl (wrapV_i64 (by omega) (by omega)) ?_
  refine RL.callvq (qlen_zero b2) Try.call17 rfl rfl rfl rfl ?_
  refine RL.binX rfl rfl rfl rfl rfl rfl (wrapV_i64 (by omega) (by omega)) ?_
  refine RL.move rfl rfl rfl rfl ?_
  refine RL.callvq (qdrop_nil 9) Try.call14 rfl rfl rfl rfl ?_
  refine RL.binX rfl rfl rfl rfl rfl rfl (wrapV_i64 (by omega) (by omega)) ?_
  refine RL.callvq (qdrop_zero b2 9) Try.call14 rfl rfl rfl rfl ?_
  refine RL.binX rfl rfl rfl rfl rfl rfl (wrapV_i64 (by omega) (by omega)) ?_
  refine RL.bin rfl rfl rfl rfl rfl rfl ?_
  refine RL.pickT rfl rfl rfl rfl rfl ?_
  refine RL.assign rfl rfl rfl rfl ?_
  refine RL.nil ?_
  refine NQ.seq ?_
  refine CW.only (.cons (k := 2) rfl .nil) ?_
  refine CW.ret ?_
  exact RQ.post (res1 rfl rfl) (Split.none _) ⟨rfl, rfl, rfl⟩
theorem pendVoid_call (W : World) (a : Act20) (ha : rAct20.ok a) (ta : ∀ y ∈ rAct20.its a, y.A W) :
    Calls Try.prog 5 #[rAct20.val a] W (fun e w' => e = .returned (.bool true) ∧ RowKit.Below W.heap.size W w') := (qvoid a ha).lawI ta
end Go.Proofs.Ytggmnhogmjglmaa
