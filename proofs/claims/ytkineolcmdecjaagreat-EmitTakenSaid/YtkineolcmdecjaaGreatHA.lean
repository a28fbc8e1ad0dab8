import Derived.Test.YtkineolcmdecjaaGreatFacts
import Derived.Test.YtkineolcmdecjaaGreatSha
import Derived.Test.YtkineolcmdecjaaGreatBA
namespace Go.Proofs.YtkineolcmdecjaaGreat
open Go.PK
open Tryz
theorem neg31:∀n:Nat,n < 32→0 < n→IntKind.u64.wrap (BitVec.ofInt IntKind.u64.bits (IntKind.u64.wrap (IntKind.i64.wrap (0 - (n:Int)))) &&& BitVec.ofInt IntKind.u64.bits 31).toNat=(32 - n:Nat):=by decide
theorem sub32:∀n:Nat,n < 32→0 < n→IntKind.u64.wrap (32 - ((32 - n:Nat):Int))=(n:Int):=by decide
theorem rot_any (x:B32) (n:Nat) (h0:0 < n) (h:n < 32):Spc prog 225 #[U32 x, .int .i64 (IntKind.i64.wrap (0 - (n:Int)))] [] [] (Is (U32 (rotr x n))):=by
 refine Spc.en func225 rfl rfl (fun w0 hw0=> ?_)
 refine CW.sr (RL.pn rfl (CW.sr (RL.p rfl (RL.conv runUnderlying3 runUnderlying316 rfl (RL.qn rfl (CW.ss ?_))))))
 refine CW.rg (RL.q rfl (RL.shl32 (32 - n) rfl (neg31 n h h0) zb ?_))
 refine RL.q rfl (RL.p rfl (RL.shr32 n rfl (by rw [neg31 n h h0];exact sub32 n h h0) zb ?_))
 refine RL.bv32 (a:=_) (b:=_) or32 rfl ?_
 refine RL.pn rfl (CW.ok [4] rfl (CW.rr ?_))
 exact RQ.pp (res1 rfl rfl) (Split.nn _) ⟨rfl,rfl,rfl⟩
theorem hright_any (x:B32) (n:Nat) (h0:0 < n) (h:n < 32):Spc prog 221 #[U32 x, .int .i64 (n:Int)] [] [] (Is (U32 (rotr x n))):=by
 refine Spc.en func221 rfl rfl (fun w0 hw0=> ?_)
 refine CW.sr (RL.pn rfl (CW.sr (RL.q rfl (RL.neg rfl rfl (RL.vq (rot_any x n h0 h) call225 rfl ?_)))))
 refine RL.pn rfl (CW.ok [4] rfl (CW.rr ?_))
 exact RQ.pp (res1 rfl rfl) (Split.nn _) ⟨rfl,rfl,rfl⟩
theorem hfirst_any:Spc prog 202 #[] [] [] (Is (.agg iv.cells.toArray)):=by
 refine Spc.en func202 rfl rfl (fun w0 hw0=> ?_)
 refine CW.sg [0] [] (RL.al zeroValue365 rfl ?_)
 intro b1
 refine RL.ns (CW.sg [1] [1] (RL.buildA [_,_,_,_,_,_,_,_] zeroValue365 runUnderlying365 sizeOf61 rfl (RL.store (vs:= [_,_,_,_,_,_,_,_]) sizeOf365 rfl rfl uE ?_)))
 refine RL.ns (CW.rr ?_)
 exact RQ.pp (resC rfl rfl isAgg365 (vs:= [_,_,_,_,_,_,_,_]) sizeOf365 zg) (Split.nn _) ⟨rfl,rfl,rfl⟩
theorem rfirst_any:Spc prog 195 #[] [] [] (Is (.agg iv.cells.toArray)):=by
 refine Spc.en func195 rfl rfl (fun w0 hw0=> ?_)
 refine CW.sg [0] [] (RL.al zeroValue62 rfl ?_)
 intro b1
 refine RL.ns (CW.sg [1] [1] (RL.buildA [_,_,_,_,_,_,_,_] zeroValue62 runUnderlying62 sizeOf61 rfl (RL.store (vs:= [_,_,_,_,_,_,_,_]) sizeOf62 rfl rfl uE ?_)))
 refine RL.ns (CW.rr ?_)
 exact RQ.pp (resC rfl rfl isAgg62 (vs:= [_,_,_,_,_,_,_,_]) sizeOf62 zg) (Split.nn _) ⟨rfl,rfl,rfl⟩
end Go.Proofs.YtkineolcmdecjaaGreat
namespace Go.Proofs.YtkineolcmdecjaaGreat
open Go.PK
open Tryz
theorem htable_any:Spc prog 220 #[] [] [] (Is (.agg (words K).toArray)):=by
 refine Spc.en func220 rfl rfl (fun w0 hw0=> ?_)
 refine CW.sg [0] [] (RL.al zeroValue393 rfl ?_)
 intro b1
 refine RL.ns (CW.sg [1] [1] (RL.buildA (words K) zeroValue393 runUnderlying393 sizeOf61 (qP rfl (qP rfl zi)) ?_))
 refine RL.sX (cs':=words K) (vs:=words K) zi sizeOf393 rfl (ones_map one32 K) uE zc ?_
 refine RL.ns (CW.rr ?_)
 exact RQ.pp (resC rfl rfl isAgg393 (vs:=words K) sizeOf393 (Rds.all mQ)) (Split.nn _) ⟨rfl,rfl,rfl⟩
def wcells (m:List B8) (n:Nat):List Value:=words (ws m n)++List.replicate (64 - n) (U32 0#32)
theorem wcells_length (m:List B8) {n:Nat} (h:n≤64):(wcells m n).length=64:=by simp [wcells,ws_length];omega
theorem wcells_store (m:List B8) {n:Nat} (h:n < 64):spl (wcells m n) (0+n*1) [U32 (word m (ws m n) n)]=wcells m (n+1):=by
 have e:64 - n=(64 - (n+1))+1:=by omega
 have h2:=spl_snoc (z:=U32 0#32) (v:=U32 (word m (ws m n) n)) (k:=64 - (n+1)) (words (ws m n))
 rw [List.length_map,ws_length] at h2
 rw [wcells,e,Nat.zero_add,Nat.mul_one,h2,wcells,ws,words,words,List.map_append]
 rfl
theorem wcells_get (m:List B8) {n j:Nat} (h:j < n):(wcells m n)[0+j*1]? =some (U32 ((ws m n).getD j 0)):=by
 have:j < (ws m n).length:=by rw [ws_length];exact h
 rw [Nat.zero_add,Nat.mul_one,wcells,List.getElem?_append_left (by simpa using this)]
 simp [this]
theorem wcells_all (m:List B8):wcells m 64=words (ws m 64):=by simp [wcells]
theorem bytes_get {m:List B8} {j:Nat} (h:j < m.length):(bytes m)[j]? =some (U8 (m.getD j 0)):=by simp [h]
theorem spread_any (m:List B8) (p:Addr) (cap:Nat) (hm:m.length=64) (hc:64≤cap):Spc prog 219 #[.slice (some p) 64 cap] [sls (some p) 1 64 (bytes m)] [] (Is (.agg (words (ws m 64)).toArray)):=by
 refine Spc.en func219 rfl rfl (fun w0 hw0=> ?_)
 refine CW.sg [0] [] (RL.al zeroValue393 rfl ?_)
 intro b1
 refine RL.ns (CW.sg [0] [] (RL.al zeroValue393 rfl ?_))
 intro b2
 refine RL.ns (CW.ss (CW.sr (RL.pn rfl (CW.bb ?_))))
 refine CW.loop (γ:=Nat) (fun n=> n≤16) (fun n=> [(0, .slice (some p) 64 cap),(2, .pointer (some ⟨b1,0,none⟩)),(3, .pointer (some ⟨b2,0,none⟩)),(11, .int .i64 n)])
  (fun _=> [sls (some p) 1 64 (bytes m)]) (fun n=> [cel b2 (wcells m n) 393,cel b1 (List.replicate 64 (U32 0#32)) 393]) (fun n=> 16 - n) 0 zb sE (fun _ h=> h) ?_
 intro n hn
 refine CW.sr (RL.pn rfl (CW.ss ?_))
 refine CW.cd rfl (fun hlt=> ?_) (fun hlt=> ?_)
 ·
  refine CW.sn (CW.ss (CW.bb (CW.s1 rfl (CW.sr (RL.q rfl ?_)))))
  refine RL.bx rfl (wrapV_i64 zb zb) ?_
  have hlt:n < 16:=by simp at hlt;omega
  refine RL.sliceP (lo:=4*n) (hi:=64) runUnderlying74 sizeOf5 rfl rfl (congrArg some zb) rfl zb hc zb ?_
  refine RL.pn rfl (CW.ok [0,2,3,4,5,11] rfl (CW.rD (Sq.of (rg 0 24)) [24] [24] [0,1,2,4,5,6,7,9,10,11,12,13,15,16,17,18,19,21,22,23] mixed zi ?_))
  refine RL.q rfl ?_
  have g0:=bytes_get (m:=m) (j:=4*n*1+0*1) zb
  have g1:=bytes_get (m:=m) (j:=4*n*1+1*1) zb
  have g2:=bytes_get (m:=m) (j:=4*n*1+2*1) zb
  have g3:=bytes_get (m:=m) (j:=4*n*1+3*1) zb
  refine RL.idxS (j:=0) runUnderlying74 sizeOf5 rfl zb ?_
  refine RL.lq isAgg5 rfl ?_
  refine RL.widen runUnderlying5 runUnderlying61 rfl (RL.shl32 24 rfl rfl zc ?_)
  refine RL.p rfl (RL.idxS (j:=1) runUnderlying74 sizeOf5 rfl zb ?_)
  refine RL.lq isAgg5 rfl ?_
  refine RL.widen runUnderlying5 runUnderlying61 rfl (RL.shl32 16 rfl rfl zc ?_)
  refine RL.bv32 (a:=_) (b:=_) or32 rfl ?_
  refine RL.p rfl (RL.idxS (j:=2) runUnderlying74 sizeOf5 rfl zb ?_)
  refine RL.lq isAgg5 rfl ?_
  refine RL.widen runUnderlying5 runUnderlying61 rfl (RL.shl32 8 rfl rfl zc ?_)
  refine RL.bv32 (a:=_) (b:=_) or32 rfl ?_
  refine RL.p rfl (RL.idxS (j:=3) runUnderlying74 sizeOf5 rfl zb ?_)
  refine RL.lq isAgg5 rfl ?_
  refine RL.widen runUnderlying5 runUnderlying61 rfl (RL.bv32 (a:=_) (b:=_) or32 rfl ?_)
  refine RL.iA (j:=n) runUnderlying393 sizeOf61 rfl zb ?_
  have hwd:word m (ws m n) n=be (m.getD (4*n*1+0*1) 0) (m.getD (4*n*1+1*1) 0) (m.getD (4*n*1+2*1) 0) (m.getD (4*n*1+3*1) 0):=by
   rw [word,if_pos hlt];simp
  refine RL.sX (cs':=wcells m (n+1)) (vs:= [_]) (by rw [←wcells_store m zb,hwd];rfl) sizeOf61 rfl rfl uE (by rw [wcells_length m zb];show _≤64;simp;omega) ?_
  refine RL.ee (NQ.bb (NQ.ss (CW.ok [0,2,3,11] rfl (CW.rg (RL.bx rfl (wrapV_i64 zb zb) ?_)))))
  refine RL.p rfl (RL.ee ?_)
  exact NQ.rr (g:=n) (n+1) zb zb sE (fun _ h=> h)
 ·
  refine CW.xx (XQ.ss (XQ.ss (XQ.hh (NQ.ss (CW.ss (CW.sr (RL.pn rfl (CW.bb ?_))))))))
  have hn16:n=16:=by simp at hlt;omega
  subst hn16
  refine CW.loop (γ:=Nat) (fun n=> 16≤n∧n≤64) (fun n=> [(2, .pointer (some ⟨b1,0,none⟩)),(3, .pointer (some ⟨b2,0,none⟩)),(6, .int .i64 n)])
   (fun _=> [sls (some p) 1 64 (bytes m)]) (fun n=> [cel b2 (wcells m n) 393,cel b1 (List.replicate 64 (U32 0#32)) 393]) (fun n=> 64 - n) 16 zb sE (fun _ h=> h) ?_
  intro n hn
  refine CW.ss (CW.s1 rfl ?_)
  refine CW.cd rfl (fun hlt=> ?_) (fun hlt=> ?_)
  ·
   refine CW.sn (CW.ss (CW.bs (CW.rD (Sq.of (rg 0 9)) [] [] [0,1,2,4,5,6,8,9] mixed zi ?_)))
   refine RL.p rfl (RL.bx rfl (wrapV_i64 zb zb) ?_)
   have hlt:n < 64:=by simp at hlt;omega
   have g2:=wcells_get m (n:=n) (j:=n - 2) zb
   have g7:=wcells_get m (n:=n) (j:=n - 7) zb
   have g15:=wcells_get m (n:=n) (j:=n - 15) zb
   have g16:=wcells_get m (n:=n) (j:=n - 16) zb
   refine RL.iA (j:=n - 15) runUnderlying393 sizeOf61 (qP rfl (qP rfl (qP rfl zb))) zb ?_
   refine RL.lq isAgg61 rfl ?_
   refine RL.p rfl (RL.bx rfl (wrapV_i64 zb zb) ?_)
   refine RL.iA (j:=n - 2) runUnderlying393 sizeOf61 (qP rfl (qP rfl (qP rfl zb))) zb ?_
   refine RL.lq isAgg61 rfl ?_
   refine RL.qn rfl (CW.ok [2,3,6,7,8] rfl (CW.sr (RL.p rfl (RL.vq (hright_any _ _ zc zc) call221 rfl ?_))))
   refine RL.p rfl (RL.vq (hright_any _ _ zc zc) call221 rfl ?_)
   refine RL.bv32 (a:=_) (b:=_) xor32 rfl ?_
   refine RL.p rfl (RL.shr32 3 rfl rfl zc ?_)
   refine RL.bv32 (a:=_) (b:=_) xor32 rfl ?_
   refine RL.pn rfl (CW.ok [2,3,6,8,9] rfl (CW.sr (RL.p rfl (RL.vq (hright_any _ _ zc zc) call221 rfl ?_))))
   refine RL.p rfl (RL.vq (hright_any _ _ zc zc) call221 rfl ?_)
   refine RL.bv32 (a:=_) (b:=_) xor32 rfl ?_
   refine RL.p rfl (RL.shr32 10 rfl rfl zc ?_)
   refine RL.bv32 (a:=_) (b:=_) xor32 rfl ?_
   refine RL.pn rfl (CW.ok [2,3,6,9,10] rfl (CW.rD (Sq.of (rg 0 15)) [15] [15] [0,1,2,3,4,6,7,8,9,10,11,13,14] mixed zi ?_))
   refine RL.q rfl (RL.p rfl (RL.bx rfl (wrapV_i64 zb zb) ?_))
   refine RL.iA (j:=n - 7) runUnderlying393 sizeOf61 (qP rfl (qP rfl (qP rfl zb))) zb ?_
   refine RL.lq isAgg61 rfl ?_
   refine RL.bv32 (a:=_) (b:=_) add32 rfl ?_
   refine RL.p rfl (RL.bv32 (a:=_) (b:=_) add32 rfl ?_)
   refine RL.p rfl (RL.bx rfl (wrapV_i64 zb zb) ?_)
   refine RL.iA (j:=n - 16) runUnderlying393 sizeOf61 (qP rfl (qP rfl (qP rfl zb))) zb ?_
   refine RL.lq isAgg61 rfl ?_
   refine RL.bv32 (a:=_) (b:=_) add32 rfl ?_
   refine RL.iA (j:=n) runUnderlying393 sizeOf61 (qP rfl (qP rfl (qP rfl zb))) zb ?_
   refine RL.sX (cs':=wcells m (n+1)) (vs:= [_]) (by rw [←wcells_store m zb,word,if_neg zb];rfl) sizeOf61 rfl rfl uE (by rw [wcells_length m hn.2];show _≤64;simp;omega) ?_
   refine RL.ee (NQ.bb (NQ.ss (CW.ok [2,3,6] rfl (CW.rg (RL.p rfl (RL.bx rfl (wrapV_i64 zb zb) ?_))))))
   refine RL.p rfl (RL.ee ?_)
   exact NQ.rr (g:=n) (n+1) zb zb sE (fun _ h=> h)
  ·
   refine CW.xx (XQ.ss (XQ.ss (XQ.hh (NQ.ss (CW.sg [1] [1] ?_)))))
   have hn64:n=64:=by simp at hlt;omega
   subst hn64
   refine RL.ld (vs:=words (ws m 64)) isAgg393 (by rw [List.length_map,ws_length];exact sizeOf393) rfl (Rds.all (by rw [←wcells_all];exact List.Mem.head _)) ?_
   refine RL.sX (cs:=List.replicate 64 (U32 0#32)) (cs':=words (ws m 64)) (vs:=words (ws m 64)) (spl_all (by simp [ws_length])) (by rw [List.length_map,ws_length];exact sizeOf393) rfl (ones_map one32 _) uE (by simp [ws_length]) ?_
   refine RL.ns (CW.rr ?_)
   exact RQ.pp (resC rfl rfl isAgg393 (vs:=words (ws m 64)) (by rw [List.length_map,ws_length];exact sizeOf393) (Rds.all mQ)) (Split.nn _) ⟨rfl,rfl,rfl⟩
end Go.Proofs.YtkineolcmdecjaaGreat
namespace Go.Proofs.YtkineolcmdecjaaGreat
open Go.PK
open Tryz
theorem K_get {n:Nat} (h:n < 64):(words K)[0+n*1]? =some (U32 (K.getD n 0)):=by
 have:n < K.length:=h
 rw [Nat.zero_add,Nat.mul_one];simp [this]
theorem W_get (m:List B8) {n:Nat} (h:n < 64):(words (ws m 64))[0+n*1]? =some (U32 ((ws m 64).getD n 0)):=by
 have:n < (ws m 64).length:=by rw [ws_length];exact h
 rw [Nat.zero_add,Nat.mul_one];simp [this]
set_option maxHeartbeats 4000000 in
theorem turned_any (s:S8) (m:List B8) (p:Addr) (cap:Nat) (hm:m.length=64) (hc:64≤cap):Spc prog 204 #[.agg s.cells.toArray, .slice (some p) 64 cap] [sls (some p) 1 64 (bytes m)] [] (Is (.agg (comp s m).cells.toArray)):=by
 refine Spc.en func204 rfl rfl (fun w0 hw0=> ?_)
 refine CW.sg [0,1] [] (RL.box rfl ?_)
 intro b1
 refine RL.al zeroValue365 rfl ?_
 intro b2
 refine RL.ns (CW.sg [3,4,5,6] [5,6] (RL.p rfl (RL.vq (spread_any m p cap hm hc) call219 rfl ?_)))
 refine RL.vq (htable_any) call220 rfl ?_
 refine RL.al zeroValue393 rfl ?_
 intro b3
 refine RL.al zeroValue393 rfl ?_
 intro b4
 refine RL.sX (cs:=List.replicate 64 (U32 0#32)) (cs':=words (ws m 64)) (vs:=words (ws m 64)) (spl_all (by simp [ws_length])) (by rw [List.length_map,ws_length];exact sizeOf393) rfl (ones_map one32 _) uE (by simp [ws_length]) ?_
 refine RL.sX (cs:=List.replicate 64 (U32 0#32)) (cs':=words K) (vs:=words K) (spl_all rfl) sizeOf393 rfl (ones_map one32 _) uE zc ?_
 refine RL.ns (CW.sg [1,2] [2] (RL.ld (vs:= [_,_,_,_,_,_,_,_]) isAgg365 sizeOf365 rfl zg ?_))
 refine RL.al zeroValue365 rfl ?_
 intro b5
 refine RL.store (vs:= [_,_,_,_,_,_,_,_]) sizeOf365 rfl rfl uE ?_
 refine RL.ns (CW.ok [2,4,5,6,7] rfl (CW.ss (CW.sr (RL.pn rfl (CW.bb ?_)))))
 refine CW.loop (γ:=Nat) (fun n=> n≤64) (fun n=> [(2, .pointer (some ⟨b1,0,none⟩)),(4, .pointer (some ⟨b2,0,none⟩)),(5, .pointer (some ⟨b3,0,none⟩)),(6, .pointer (some ⟨b4,0,none⟩)),(7, .pointer (some ⟨b5,0,none⟩)),(18, .int .i64 n)])
  (fun _=> [sls (some p) 1 64 (bytes m)]) (fun n=> [cel b5 (rounds s (ws m 64) n).cells 365,cel b4 (words K) 393,cel b3 (words (ws m 64)) 393,cel b2 (List.replicate 8 (U32 0#32)) 365,cel b1 s.cells 365])
  (fun n=> 64 - n) 0 zb sE (fun _ h=> h) ?_
 intro n hn
 generalize hX:rounds s (ws m 64) n=X
 refine CW.sr (RL.pn rfl (CW.ss ?_))
 refine CW.cd rfl (fun hlt=> ?_) (fun hlt=> ?_)
 ·
  refine CW.sn (CW.ss (CW.bb (CW.s1 rfl (CW.ss (CW.rD (Sq.of [0,1,2,3,4,5]) [] [] [0,2,4,5] mixed zi ?_)))))
  refine RL.iA (j:=4) runUnderlying365 sizeOf61 rfl zc ?_
  refine RL.lq isAgg61 rfl ?_
  refine RL.iA (j:=0) runUnderlying365 sizeOf61 rfl zc ?_
  refine RL.lq isAgg61 rfl ?_
  refine RL.qn rfl (CW.ok ([2]++rg 4 10++[18]) rfl (CW.ss (CW.rD (Sq.of (rg 0 30)) [] [] [0,2,4,6,7,9,10,11,12,14,15,16,17,19,20,21,22,23,25,26,27,29,30] mixed zi ?_)))
  refine RL.iA (j:=7) runUnderlying365 sizeOf61 rfl zc ?_
  refine RL.lq isAgg61 rfl ?_
  refine RL.p rfl (RL.vq (hright_any _ _ zc zc) call221 rfl ?_)
  refine RL.p rfl (RL.vq (hright_any _ _ zc zc) call221 rfl ?_)
  refine RL.bv32 (a:=_) (b:=_) xor32 rfl ?_
  refine RL.p rfl (RL.vq (hright_any _ _ zc zc) call221 rfl ?_)
  refine RL.bv32 (a:=_) (b:=_) xor32 rfl ?_
  refine RL.bv32 (a:=_) (b:=_) add32 rfl ?_
  refine RL.p rfl (RL.iA (j:=5) runUnderlying365 sizeOf61 rfl zc ?_)
  refine RL.lq isAgg61 rfl ?_
  refine RL.bv32 (a:=_) (b:=_) and32 rfl ?_
  refine RL.p rfl (RL.inv32 rfl rfl (RL.iA (j:=6) runUnderlying365 sizeOf61 rfl zc ?_))
  refine RL.lq isAgg61 rfl ?_
  refine RL.bv32 (a:=_) (b:=_) and32 rfl ?_
  refine RL.bv32 (a:=_) (b:=_) xor32 rfl ?_
  refine RL.bv32 (a:=_) (b:=_) add32 rfl ?_
  refine RL.p rfl ?_
  have hlt:n < 64:=by simp at hlt;omega
  have gk:=K_get hlt
  refine RL.iA (j:=n) runUnderlying393 sizeOf61 rfl zb ?_
  refine RL.lq isAgg61 rfl ?_
  refine RL.bv32 (a:=_) (b:=_) add32 rfl ?_
  refine RL.p rfl ?_
  clear gk
  have gw:=W_get m hlt
  refine RL.iA (j:=n) runUnderlying393 sizeOf61 rfl zb ?_
  refine RL.load isAgg61 rfl (Rd.get mQ gw) ?_
  clear gw
  refine RL.bv32 (a:=_) (b:=_) add32 rfl ?_
  refine RL.pn rfl (CW.ok [2,4,5,6,7,10,11,18] rfl (CW.ss (CW.rD (Sq.of (rg 0 24)) [] [] [0,2,4,5,7,8,9,11,12,13,15,16,17,19,21,22,23,24] mixed zi ?_)))
  refine RL.p rfl (RL.vq (hright_any _ _ zc zc) call221 rfl ?_)
  refine RL.p rfl (RL.vq (hright_any _ _ zc zc) call221 rfl ?_)
  refine RL.bv32 (a:=_) (b:=_) xor32 rfl ?_
  refine RL.p rfl (RL.vq (hright_any _ _ zc zc) call221 rfl ?_)
  refine RL.bv32 (a:=_) (b:=_) xor32 rfl ?_
  refine RL.p rfl (RL.iA (j:=1) runUnderlying365 sizeOf61 rfl zc ?_)
  refine RL.lq isAgg61 rfl ?_
  refine RL.bv32 (a:=_) (b:=_) and32 rfl ?_
  refine RL.p rfl (RL.iA (j:=2) runUnderlying365 sizeOf61 rfl zc ?_)
  refine RL.lq isAgg61 rfl ?_
  refine RL.bv32 (a:=_) (b:=_) and32 rfl ?_
  refine RL.bv32 (a:=_) (b:=_) xor32 rfl ?_
  refine RL.iA (j:=1) runUnderlying365 sizeOf61 rfl zc ?_
  refine RL.lq isAgg61 rfl ?_
  refine RL.iA (j:=2) runUnderlying365 sizeOf61 rfl zc ?_
  refine RL.lq isAgg61 rfl ?_
  refine RL.bv32 (a:=_) (b:=_) and32 rfl ?_
  refine RL.bv32 (a:=_) (b:=_) xor32 rfl ?_
  refine RL.bv32 (a:=_) (b:=_) add32 rfl ?_
  refine RL.pn rfl (CW.ok [2,4,5,6,7,11,12,18] rfl (CW.ss (CW.rD (Sq.of [0,1,2]) [2] [2] [0,1] mixed zi ?_)))
  refine RL.sliceA (lo:=1) (hi:=8) runUnderlying365 sizeOf61 rfl rfl rfl rfl zc zc zc ?_
  refine RL.sliceA (lo:=0) (hi:=7) runUnderlying365 sizeOf61 rfl rfl rfl rfl zc zc zc ?_
  refine RL.copy runUnderlying389 sizeOf61 rfl (Src.celAt (cs:=X.cells) mQ (by show 7≤8;decide)) (by intro u hu;simp [S8.cells] at hu;rcases hu with rfl | rfl | rfl | rfl | rfl | rfl | rfl <;> rfl) uE (by show 8≤8;decide) ?_
  refine RL.ns (CW.sg [5] [5] (RL.iA (j:=4) runUnderlying365 sizeOf61 rfl zc ?_))
  refine RL.lq isAgg61 rfl ?_
  refine RL.p rfl (RL.bv32 (a:=_) (b:=_) add32 rfl ?_)
  refine RL.iA (j:=4) runUnderlying365 sizeOf61 rfl zc ?_
  refine RL.store (vs:= [_]) sizeOf61 rfl rfl uE ?_
  refine RL.ns (CW.ok [2,4,5,6,7,11,12,18] rfl (CW.rn (ef:= [4]) (bk:= [4]) (RL.q rfl (RL.bv32 (a:=_) (b:=_) add32 rfl ?_))))
  refine RL.iA (j:=0) runUnderlying365 sizeOf61 rfl zc ?_
  refine RL.store (vs:= [_]) sizeOf61 rfl rfl uE ?_
  refine RL.ee (NQ.bb (NQ.ss (CW.ok [2,4,5,6,7,18] rfl (CW.rg (RL.bx rfl (wrapV_i64 zb zb) ?_)))))
  refine RL.p rfl (RL.ee ?_)
  refine NQ.rr (g:=n) (n+1) zb zb sE (fun _ h=> ?_)
  have hR:rounds s (ws m 64) (n+1)=rnd X (K.getD n 0) ((ws m 64).getD n 0):=by rw [rounds,hX]
  rw [hR]
  exact h
 ·
  refine CW.xx (XQ.ss (XQ.ss (XQ.hh (NQ.ss (CW.ss (CW.sr (RL.pn rfl (CW.bb ?_))))))))
  have hn64:n=64:=by simp at hlt;omega
  subst hn64
  refine CW.loop (γ:=Nat) (fun n=> n≤8) (fun n=> [(2, .pointer (some ⟨b1,0,none⟩)),(4, .pointer (some ⟨b2,0,none⟩)),(7, .pointer (some ⟨b5,0,none⟩)),(92, .int .i64 n)])
   (fun _=> [sls (some p) 1 64 (bytes m)]) (fun n=> [cel b5 X.cells 365,cel b2 (List.replicate 8 (U32 0#32)) 365,cel b1 ((addS s X).cells.take n++s.cells.drop n) 365])
   (fun n=> 8 - n) 0 zb sE (fun _ h=> h.rea (fun _ h=> h) rE) ?_
  intro n hn
  refine CW.sr (RL.pn rfl (CW.ss ?_))
  refine CW.cd rfl (fun hlt=> ?_) (fun hlt=> ?_)
  ·
   refine CW.sn (CW.ss (CW.bb (CW.s1 rfl (CW.rD (Sq.of (rg 0 8)) [8] [8] [0,1,3,4,6,7] mixed zi ?_))))
   refine RL.p rfl ?_
   have hlt:n < 8:=by simp at hlt;omega
   have h1:((addS s X).cells.take n++s.cells.drop n)[0+n*1]? =some (U32 (sget s n)):=by rw [get_mix hlt,sget_cells s n hlt]
   refine RL.iA (j:=n) runUnderlying365 sizeOf61 rfl zb ?_
   refine RL.lq isAgg61 rfl ?_
   refine RL.p rfl ?_
   have h2:X.cells[0+n*1]? =some (U32 (sget X n)):=by rw [Nat.zero_add,Nat.mul_one,sget_cells X n hlt]
   clear h1
   refine RL.iA (j:=n) runUnderlying365 sizeOf61 rfl zb ?_
   refine RL.lq isAgg61 rfl ?_
   refine RL.bv32 (a:=_) (b:=_) add32 rfl ?_
   clear h2
   refine RL.iA (j:=n) runUnderlying365 sizeOf61 rfl zb ?_
   refine RL.sX (cs':=(addS s X).cells.take (n+1)++s.cells.drop (n+1)) (vs:= [_]) (spl_mix (l1:=s.cells) (l2:=(addS s X).cells) rfl (by rw [sget_cells _ n hlt,sget_add s X n hlt])) sizeOf61 rfl rfl uE zp ?_
   refine RL.ee (NQ.bb (NQ.ss (CW.ok [2,4,7,92] rfl (CW.rg (RL.bx rfl (wrapV_i64 zb zb) ?_)))))
   refine RL.p rfl (RL.ee ?_)
   exact NQ.rr (g:=n) (n+1) zb zb sE (fun _ h=> h)
  ·
   have hn8:n=8:=by simp at hlt;omega
   subst hn8
   refine CW.xx (XQ.ss (XQ.ss (XQ.hh (NQ.ss (CW.sg [1] [1] (RL.ld (vs:= [_,_,_,_,_,_,_,_]) isAgg365 sizeOf365 rfl zg ?_))))))
   refine RL.store (vs:= [_,_,_,_,_,_,_,_]) sizeOf365 rfl rfl uE ?_
   refine RL.ns (CW.rr ?_)
   exact RQ.pp (resC rfl rfl isAgg365 (vs:= [_,_,_,_,_,_,_,_]) sizeOf365 zg) (Split.nn _) ⟨by rw [comp,hX],rfl,rfl⟩
end Go.Proofs.YtkineolcmdecjaaGreat
namespace Go.Proofs.YtkineolcmdecjaaGreat
open Go.PK
open Tryz
theorem rright_any (x:B32) (n:Nat) (h:n≤32):Spc prog 215 #[U32 x, .int .i64 (n:Int)] [] [] (Is (U32 (rotr x n))):=by
 rw [←rightN_eq x n h]
 refine Spc.en func215 rfl rfl (fun w0 hw0=> ?_)
 refine CW.sr (RL.pn rfl (CW.ss (CW.sr (RL.pn rfl (CW.bb (CW.loop (γ:=Nat) (fun k=> k≤n) (fun k=> [(0,U32 (rightN x k)),(1, .int .i64 (n:Int)),(5, .int .i64 (k:Int))]) (fun _=> []) (fun _=> []) (fun k=> n - k) 0 zb sE (fun _ h=> h) ?_))))))
 intro k hk
 refine CW.ss (CW.sr (RL.p rfl (RL.qn rfl ?_)))
 refine CW.cd rfl (fun hlt=> ?_) (fun hlt=> ?_)
 ·
  refine CW.sn (CW.ss (CW.bb (CW.rg (RL.p rfl (RL.quo32 (2#32) rfl zc ?_)))))
  refine RL.p rfl (RL.rem32 (2#32) rfl zc ?_)
  refine RL.bv32 (a:=_) (b:=2147483648#32) mul32 rfl ?_
  refine RL.bv32 (a:=_) (b:=_) add32 rfl ?_
  refine RL.p rfl (RL.ee (NQ.bb (NQ.ss (CW.ok [0,1,5] rfl (CW.rg (RL.p rfl (RL.bx rfl (wrapV_i64 zb zb) ?_)))))))
  refine RL.p rfl (RL.ee ?_)
  have hlt:k < n:=by simp at hlt;omega
  exact NQ.rr (g:=k) (k+1) zb zb sE (fun _ h=> h)
 ·
  refine CW.xx (XQ.ss (XQ.ss (XQ.hh (NQ.ss (CW.s1 rfl (CW.ok [4] rfl (CW.rr ?_)))))))
  have hkn:k=n:=by simp at hlt;omega
  subst hkn
  exact RQ.pp (res1 rfl rfl) (Split.nn _) ⟨rfl,rfl,rfl⟩
theorem rdown_any (x:B32) (n:Nat) (h:n≤32):Spc prog 216 #[U32 x, .int .i64 (n:Int)] [] [] (Is (U32 (x >>> n))):=by
 rw [←downN_eq x n]
 refine Spc.en func216 rfl rfl (fun w0 hw0=> ?_)
 refine CW.sr (RL.pn rfl (CW.ss (CW.sr (RL.pn rfl (CW.bb (CW.loop (γ:=Nat) (fun k=> k≤n) (fun k=> [(0,U32 (downN x k)),(1, .int .i64 (n:Int)),(5, .int .i64 (k:Int))]) (fun _=> []) (fun _=> []) (fun k=> n - k) 0 zb sE (fun _ h=> h) ?_))))))
 intro k hk
 refine CW.ss (CW.sr (RL.p rfl (RL.qn rfl ?_)))
 refine CW.cd rfl (fun hlt=> ?_) (fun hlt=> ?_)
 ·
  refine CW.sn (CW.ss (CW.bb (CW.rg (RL.p rfl (RL.quo32 (2#32) rfl zc ?_)))))
  refine RL.p rfl (RL.ee (NQ.bb (NQ.ss (CW.rg (RL.p rfl (RL.bx rfl (wrapV_i64 zb zb) ?_))))))
  refine RL.p rfl (RL.ee ?_)
  have hlt:k < n:=by simp at hlt;omega
  exact NQ.rr (g:=k) (k+1) zb zb sE (fun _ h=> h)
 ·
  refine CW.xx (XQ.ss (XQ.ss (XQ.hh (NQ.ss (CW.s1 rfl (CW.ok [4] rfl (CW.rr ?_)))))))
  have hkn:k=n:=by simp at hlt;omega
  subst hkn
  exact RQ.pp (res1 rfl rfl) (Split.nn _) ⟨rfl,rfl,rfl⟩
theorem rtable_any:Spc prog 217 #[] [] [] (fun v I' H'=> ∃b,v= .slice (some ⟨b,0,none⟩) 64 64∧I'= []∧H'= [cel b (words K) 61]):=by
 refine Spc.en func217 rfl rfl (fun w0 hw0=> ?_)
 refine CW.sr (RL.pn rfl (CW.sg [0] [] (RL.buildSlice (words K) runUnderlying389 sizeOf61 zeroValue61 rfl rfl zc zc rfl zi ?_)))
 intro b1
 refine RL.pn rfl (CW.rr ?_)
 exact RQ.pp (res1 rfl rfl) (.keep .nil) ⟨b1,rfl,rfl,rfl⟩
end Go.Proofs.YtkineolcmdecjaaGreat
