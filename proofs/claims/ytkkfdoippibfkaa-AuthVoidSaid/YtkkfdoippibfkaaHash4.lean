import Derived.Test.YtkkfdoippibfkaaHash3
namespace Go.Proofs.Ytkkfdoippibfkaa
open Go.PK

theorem rright_any (x : B32) (n : Nat) (h : n ≤ 32) : Spc Try.prog 209 #[U32 x, .int .i64 (n : Int)] [] [] (Is (U32 (rotr x n))) := by
  rw [← rightN_eq x n h]
  refine Spc.enter Try.func209 rfl rfl rfl (fun w0 hw0 => ?_)
  refine CW.seq ?_
  refine CW.region (ef := []) (bk := []) ?_
  refine RL.assign rfl rfl rfl rfl ?_
  refine RL.nil ?_
  refine NQ.seq ?_
  refine CW.seq ?_
  refine CW.seq ?_
  refine CW.region (ef := []) (bk := []) ?_
  refine RL.assign rfl rfl rfl rfl ?_
  refine RL.nil ?_
  refine NQ.seq ?_
  refine CW.block ?_
  -- STOP: loop; todo top: ["code", ["loop", ["seq", ["seq", ["region", 2, [{"d": 6, "op": ["move", ["t", 5]], "ty": 3, "pos": "ref.go:26", "after": [], "guard": null}, {"d": 7, "op": ["move", ["t", 1]], "ty": 3, "pos": "ref.go
  refine CW.loop (γ := Nat) (fun k => k ≤ n) (fun k => [(0, U32 (rightN x k)), (1, .int .i64 (n : Int)), (5, .int .i64 (k : Int))]) (fun _ => []) (fun _ => []) (fun k => n - k) 0 (by omega) (.cons rfl (.cons rfl (.cons rfl .nil))) (fun _ h => h) ?_
  intro k hk
  refine CW.seq ?_
  refine CW.seq ?_
  refine CW.region (ef := []) (bk := []) ?_
  refine RL.move rfl rfl rfl rfl ?_
  refine RL.move rfl rfl rfl rfl ?_
  refine RL.bin rfl rfl rfl rfl rfl rfl ?_
  refine RL.nil ?_
  refine NQ.seq ?_
  -- STOP: if; todo top: ["code", ["cond", ["t", 8], ["skip"], ["exit", 0]]]
  refine CW.cond rfl (fun hlt => ?_) (fun hlt => ?_)
  ·
    refine CW.skip ?_
    refine NQ.seq ?_
    refine CW.seq ?_
    refine CW.block ?_
    refine CW.region (ef := []) (bk := []) ?_
    refine RL.move rfl rfl rfl rfl ?_
    refine RL.quo32 (2#32) rfl rfl rfl rfl rfl (by decide) ?_
    refine RL.move rfl rfl rfl rfl ?_
    refine RL.rem32 (2#32) rfl rfl rfl rfl rfl (by decide) ?_
    refine RL.bv32 (a := _) (b := 2147483648#32) mul32 rfl rfl rfl rfl rfl ?_
    refine RL.bv32 (a := _) (b := _) add32 rfl rfl rfl rfl rfl ?_
    refine RL.assign rfl rfl rfl rfl ?_
    refine RL.nil ?_
    refine NQ.block ?_
    refine NQ.seq ?_
    refine CW.only (.cons (k := 0) rfl (.cons (k := 1) rfl (.cons (k := 5) rfl .nil))) ?_
    refine CW.region (ef := []) (bk := []) ?_
    refine RL.move rfl rfl rfl rfl ?_
    refine RL.binX rfl rfl rfl rfl rfl rfl (wrapV_i64 (by omega) (by omega)) ?_
    refine RL.assign rfl rfl rfl rfl ?_
    refine RL.nil ?_
    -- STOP: round; todo top: ["N"]
    have hlt : k < n := by simp at hlt; omega
    exact NQ.round (g := k) (k + 1) (by omega) (by omega) (.cons rfl (.cons rfl (.cons rfl .nil))) (fun _ h => h)
  ·
    refine CW.exit ?_
    refine XQ.seq ?_
    refine XQ.seq ?_
    refine XQ.hit ?_
    refine NQ.seq ?_
    refine CW.seq ?_
    refine CW.region (ef := []) (bk := []) ?_
    refine RL.move rfl rfl rfl rfl ?_
    refine RL.assign rfl rfl rfl rfl ?_
    refine RL.nil ?_
    refine NQ.seq ?_
    refine CW.only (.cons (k := 4) rfl .nil) ?_
    refine CW.ret ?_
    -- STOP: ret; end
    have hkn : k = n := by simp at hlt; omega
    subst hkn
    exact RQ.post (res1 rfl rfl) (Split.none _) ⟨rfl, rfl, rfl⟩

theorem rdown_any (x : B32) (n : Nat) (h : n ≤ 32) : Spc Try.prog 210 #[U32 x, .int .i64 (n : Int)] [] [] (Is (U32 (x >>> n))) := by
  rw [← downN_eq x n]
  refine Spc.enter Try.func210 rfl rfl rfl (fun w0 hw0 => ?_)
  refine CW.seq ?_
  refine CW.region (ef := []) (bk := []) ?_
  refine RL.assign rfl rfl rfl rfl ?_
  refine RL.nil ?_
  refine NQ.seq ?_
  refine CW.seq ?_
  refine CW.seq ?_
  refine CW.region (ef := []) (bk := []) ?_
  refine RL.assign rfl rfl rfl rfl ?_
  refine RL.nil ?_
  refine NQ.seq ?_
  refine CW.block ?_
  -- STOP: loop; todo top: ["code", ["loop", ["seq", ["seq", ["region", 2, [{"d": 6, "op": ["move", ["t", 5]], "ty": 3, "pos": "ref.go:34", "after": [], "guard": null}, {"d": 7, "op": ["move", ["t", 1]], "ty": 3, "pos": "ref.go
  refine CW.loop (γ := Nat) (fun k => k ≤ n) (fun k => [(0, U32 (downN x k)), (1, .int .i64 (n : Int)), (5, .int .i64 (k : Int))]) (fun _ => []) (fun _ => []) (fun k => n - k) 0 (by omega) (.cons rfl (.cons rfl (.cons rfl .nil))) (fun _ h => h) ?_
  intro k hk
  refine CW.seq ?_
  refine CW.seq ?_
  refine CW.region (ef := []) (bk := []) ?_
  refine RL.move rfl rfl rfl rfl ?_
  refine RL.move rfl rfl rfl rfl ?_
  refine RL.bin rfl rfl rfl rfl rfl rfl ?_
  refine RL.nil ?_
  refine NQ.seq ?_
  -- STOP: if; todo top: ["code", ["cond", ["t", 8], ["skip"], ["exit", 0]]]
  refine CW.cond rfl (fun hlt => ?_) (fun hlt => ?_)
  ·
    refine CW.skip ?_
    refine NQ.seq ?_
    refine CW.seq ?_
    refine CW.block ?_
    refine CW.region (ef := []) (bk := []) ?_
    refine RL.move rfl rfl rfl rfl ?_
    refine RL.quo32 (2#32) rfl rfl rfl rfl rfl (by decide) ?_
    refine RL.assign rfl rfl rfl rfl ?_
    refine RL.nil ?_
    refine NQ.block ?_
    refine NQ.seq ?_
    refine CW.region (ef := []) (bk := []) ?_
    refine RL.move rfl rfl rfl rfl ?_
    refine RL.binX rfl rfl rfl rfl rfl rfl (wrapV_i64 (by omega) (by omega)) ?_
    refine RL.assign rfl rfl rfl rfl ?_
    refine RL.nil ?_
    -- STOP: round; todo top: ["N"]
    have hlt : k < n := by simp at hlt; omega
    exact NQ.round (g := k) (k + 1) (by omega) (by omega) (.cons rfl (.cons rfl (.cons rfl .nil))) (fun _ h => h)
  ·
    refine CW.exit ?_
    refine XQ.seq ?_
    refine XQ.seq ?_
    refine XQ.hit ?_
    refine NQ.seq ?_
    refine CW.seq ?_
    refine CW.region (ef := []) (bk := []) ?_
    refine RL.move rfl rfl rfl rfl ?_
    refine RL.assign rfl rfl rfl rfl ?_
    refine RL.nil ?_
    refine NQ.seq ?_
    refine CW.only (.cons (k := 4) rfl .nil) ?_
    refine CW.ret ?_
    -- STOP: ret; end
    have hkn : k = n := by simp at hlt; omega
    subst hkn
    exact RQ.post (res1 rfl rfl) (Split.none _) ⟨rfl, rfl, rfl⟩

theorem rtable_any : Spc Try.prog 211 #[] [] [] (fun v I' H' => ∃ b, v = .slice (some ⟨b, 0, none⟩) 64 64 ∧ I' = [] ∧ H' = [cel b (words K) 31]) := by
  refine Spc.enter Try.func211 rfl rfl rfl (fun w0 hw0 => ?_)
  refine CW.seq ?_
  refine CW.region (ef := []) (bk := []) ?_
  refine RL.assign rfl rfl rfl rfl ?_
  refine RL.nil ?_
  refine NQ.seq ?_
  refine CW.seq ?_
  refine CW.region (ef := [0]) (bk := []) ?_
  -- STOP: op; op 0: d=1 ["buildSlice", 357, 64, [[0, ["c", ["int", "Go.IntKind.u32", 1116352408]]], [1, ["c", ["int", "Go.IntKind.u32", 1899447441]]], [2, ["c", ["int", "Go.IntKind.u32", 3049323471]]], [3, ["c", ["int", "Go.IntKind.u32", 3921009573]]], [4, ["c", ["int", "Go.IntKind.u32", 961987163]]], [5, ["c", ["int", "Go.IntKind.u32", 1508970993]]], [6, ["c", ["int", "Go.IntKind.u32", 2453635748]]], [7, ["c", ["int", "Go.IntKind.u32", 2870763221]]], [8, ["c", ["int", "Go.IntKind.u32", 3624381080]]], [9, ["c", ["int", "Go.IntKind.u32", 310598401]]], [10, ["c", ["int", "Go.IntKind.u32", 607225278]]], [11, ["c", ["int", "Go.IntKind.u32", 1426881987]]], [12, ["c", ["int", "Go.IntKind.u32", 1925078388]]], [13, ["c", ["int", "Go.IntKind.u32", 2162078206]]], [14, ["c", ["int", "Go.IntKind.u32", 2614888103]]], [15, ["c", ["int", "Go.IntKind.u32", 3248222580]]], [16, ["c", ["int", "Go.IntKind.u32", 3835390401]]], [17, ["c", ["int", "Go.IntKind.u32", 4022224774]]], [18, ["c", ["int", "Go.IntKind.u32", 264347078]]], [19, ["c", ["int", "Go.IntKind.u32", 604807628]]], [20, ["c", ["int", "Go.IntKind.u32", 770255983]]], [21, ["c", ["int", "Go.IntKind.u32", 1249150122]]], [22, ["c", ["int", "Go.IntKind.u32", 1555081692]]], [23, ["c", ["int", "Go.IntKind.u32", 1996064986]]], [24, ["c", ["int", "Go.IntKind.u32", 2554220882]]], [25, ["c", ["int", "Go.IntKind.u32", 2821834349]]], [26, ["c", ["int", "Go.IntKind.u32", 2952996808]]], [27, ["c", ["int", "Go.IntKind.u32", 3210313671]]], [28, ["c", ["int", "Go.IntKind.u32", 3336571891]]], [29, ["c", ["int", "Go.IntKind.u32", 3584528711]]], [30, ["c", ["int", "Go.IntKind.u32", 113926993]]], [31, ["c", ["int", "Go.IntKind.u32", 338241895]]], [32, ["c", ["int", "Go.IntKind.u32", 666307205]]], [33, ["c", ["int", "Go.IntKind.u32", 773529912]]], [34, ["c", ["int", "Go.IntKind.u32", 1294757372]]], [35, ["c", ["int", "Go.IntKind.u32", 1396182291]]], [36, ["c", ["int", "Go.IntKind.u32", 1695183700]]], [37, ["c", ["int", "Go.IntKind.u32", 1986661051]]], [38, ["c", ["int", "Go.IntKind.u32", 2177026350]]], [39, ["c", ["int", "Go.IntKind.u32", 2456956037]]], [40, ["c", ["int", "Go.IntKind.u32", 2730485921]]], [41, ["c", ["int", "Go.IntKind.u32", 2820302411]]], [42, ["c", ["int", "Go.IntKind.u32", 3259730800]]], [43, ["c", ["int", "Go.IntKind.u32", 3345764771]]], [44, ["c", ["int", "Go.IntKind.u32", 3516065817]]], [45, ["c", ["int", "Go.IntKind.u32", 3600352804]]], [46, ["c", ["int", "Go.IntKind.u32", 4094571909]]], [47, ["c", ["int", "Go.IntKind.u32", 275423344]]], [48, ["c", ["int", "Go.IntKind.u32", 430227734]]], [49, ["c", ["int", "Go.IntKind.u32", 506948616]]], [50, ["c", ["int", "Go.IntKind.u32", 659060556]]], [51, ["c", ["int", "Go.IntKind.u32", 883997877]]], [52, ["c", ["int", "Go.IntKind.u32", 958139571]]], [53, ["c", ["int", "Go.IntKind.u32", 1322822218]]], [54, ["c", ["int", "Go.IntKind.u32", 1537002063]]], [55, ["c", ["int", "Go.IntKind.u32", 1747873779]]], [56, ["c", ["int", "Go.IntKind.u32", 1955562222]]], [57, ["c", ["int", "Go.IntKind.u32", 2024104815]]], [58, ["c", ["int", "Go.IntKind.u32", 2227730452]]], [59, ["c", ["int", "Go.IntKind.u32", 2361852424]]], [60, ["c", ["int", "Go.IntKind.u32", 2428436474]]], [61, ["c", ["int", "Go.IntKind.u32", 2756734187]]], [62, ["c", ["int", "Go.IntKind.u32", 3204031479]]], [63, ["c", ["int", "Go.IntKind.u32", 3329325298]]]]] guard=None (ref.go:8)
  refine RL.buildSlice (words K) Try.runUnderlying357 Try.sizeOf31 Try.zeroValue31 rfl rfl (by decide) (by decide) rfl rfl rfl rfl rfl (by kernel_rfl) ?_
  intro b1
  refine RL.assign rfl rfl rfl rfl ?_
  refine RL.nil ?_
  refine NQ.seq ?_
  refine CW.ret ?_
  -- STOP: ret; end
  exact RQ.post (res1 rfl rfl) (.keep .nil) ⟨b1, rfl, rfl, rfl⟩
end Go.Proofs.Ytkkfdoippibfkaa
