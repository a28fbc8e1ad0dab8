import Derived.Test.YtkineolcmdecjaaGreatFA
import Derived.Test.YtkineolcmdecjaaGreatCB
namespace Go.Proofs.YtkineolcmdecjaaGreat
open Go.PK
open Tryz
def gnssL:List B8:= [103,110,115,115]
def tagK (k:List B8) (i:Nat):List B8:=deriveK k gnssL i
def Fr.tsign (f:Fr) (k:List B8) (i:Nat):Fr:= { f with tag:=macTag (tagK k i) f.signed }
theorem tsign_seg (f:Fr) (sl:Value):f.cells sl= [.int .i64 f.kd, .int .i64 f.sr, .int .u32 (f.ep:Int), .int .u64 (f.ct:Int),sl]++(bytes f.tag++ []):=by simp [Fr.cells]
theorem Fr.tsign_ok {f:Fr} (h:f.Ok) (k:List B8) (i:Nat):(f.tsign k i).Ok:=⟨h.ep,h.ct,macTag_len _ _⟩
theorem tderive_len (k:List B8) (l:List B8) (n:Nat):(deriveK k l n).length=32:=macCode_len _ _
theorem tagK_len (k:List B8) (i:Nat):(tagK k i).length=32:=tderive_len _ _ _
theorem tagKey_any (k:List B8) (i:Nat) (hk:k.length=32) (hi:i < 4294967296):Spc prog 111 #[.agg (bytes k).toArray, .int .u32 (i:Int)] [] [] (Is (.agg (bytes (tagK k i)).toArray)):=by
 have hl:=tagK_len k i
 refine Spc.en func111 rfl rfl (fun w0 hw0=> ?_)
 refine CW.sg [0,1] [] (RL.box rfl ?_)
 intro b1
 refine RL.al (cs:=List.replicate 32 (U8 0#8)) zeroValue31 rfl ?_
 intro b2
 refine RL.ns (CW.sg [4] [4] (RL.lS isAgg31 sizeOf31 rfl ?_))
 refine RL.p rfl (RL.conv runUnderlying61 runUnderlying32 rfl (RL.vq (derive_w k hk gnssL zc i hi) call140 rfl ?_))
 refine RL.sq sizeOf31 rfl ?_
 refine RL.ns (CW.ok [4] rfl (CW.rr ?_))
 exact RQ.pp (resW rfl rfl isAgg31 sizeOf31 mQ (by rw [List.length_map,hl])) (Split.nn _) ⟨rfl,rfl,rfl⟩
theorem tsign_any (k:List B8) (i:Nat) (f:Fr) (p:Option Addr) (c n:Nat) (hk:k.length=32) (hi:i < 4294967296) (hf:f.Ok) (hn:f.b.length=n) (hb:n≤900000):Spc prog 62 #[.agg (bytes k).toArray, .int .u32 (i:Int), .agg (f.cells (.slice p n c)).toArray] [sls p 1 n (bytes f.b)] [] (Is (.agg ((f.tsign k i).cells (.slice p n c)).toArray)):=by
 have hl:=fr_len hf.tag (.slice p n c)
 have hl2:=fr_len (f.tsign_ok hf k i).tag (.slice p n c)
 have hsl:=signed_len f
 refine Spc.en func62 rfl rfl (fun w0 hw0=> ?_)
 refine CW.sg [0,1,2] [] (RL.box rfl ?_)
 intro b1
 refine RL.box rfl ?_
 intro b2
 refine RL.al zeroValue78 rfl ?_
 intro b3
 refine RL.ns (CW.ss (CW.rD (Sq.of (rg 0 8)) [4,5,8] [8] [1,7] mixed zi ?_))
 refine RL.lS isAgg31 sizeOf31 rfl ?_
 refine RL.p rfl (RL.vq (tagKey_any k i hk hi) call111 rfl ?_)
 refine RL.lS isAgg78 sizeOf78 rfl ?_
 refine RL.cq (signed_any f p c n hf hn hb) call112 rfl (.inl rfl) ?_
 rintro _ _ _ ⟨ob1,cap1,rfl,rfl,rfl,ho1⟩
 refine RL.buildSlice [_] runUnderlying161 sizeOf74 zeroValue74 rfl rfl zc zc rfl rfl ?_
 intro b4
 refine RL.vv (tag_any (tagK k i) (tderive_len _ _ _) (some ⟨b4,0,none⟩) 1 1 [⟨ob1.map fun b=> ⟨b,0,none⟩,cap1,f.signed⟩] rfl zc (by simp [joined];omega)) call110 rfl (Lend.allX mQ rfl rfl (Lend.own mQ .nil)) ?_
 refine RL.fa fa_78_5 rfl ?_
 rw [show joined [⟨ob1.map fun b=> ⟨b,0,none⟩,cap1,f.signed⟩]=f.signed by simp [joined]]
 refine RL.storeSeg (cs:=f.cells (.slice p n c)) (cs':=(f.tsign k i).cells (.slice p n c)) (vs:=bytes (macTag (tagK k i) f.signed)) [.int .i64 f.kd, .int .i64 f.sr, .int .u32 (f.ep:Int), .int .u64 (f.ct:Int), .slice p n c] (bytes f.tag) [] sizeOf76 rfl (ones_map one8 _) (tsign_seg f _) (by rw [tsign_seg];rfl) rfl (by rw [List.length_map,hf.tag]) (by rw [List.length_map,macTag_len]) uE ?_
 refine RL.ns (CW.ok [5,6] rfl (CW.sg [1] [1] (RL.lS isAgg78 sizeOf78 rfl ?_)))
 refine RL.sW sizeOf78 rfl (ones_fr _ rfl) uE hl2 rfl ?_
 refine RL.ns (CW.rr ?_)
 exact RQ.pp (resW rfl rfl isAgg78 sizeOf78 mQ hl2) (Split.nn _) ⟨rfl,rfl,rfl⟩
theorem rtsign_any (k:List B8) (i:Nat) (f:Fr) (p:Option Addr) (c n:Nat) (hk:k.length=32) (hi:i < 4294967296) (hf:f.Ok) (hn:f.b.length=n) (hb:n≤900000):Spc prog 91 #[.agg (bytes k).toArray, .int .u32 (i:Int), .agg (f.cells (.slice p n c)).toArray] [sls p 1 n (bytes f.b)] [] (Is (.agg ((f.tsign k i).cells (.slice p n c)).toArray)):=by
 have hl:=fr_len hf.tag (.slice p n c)
 have hl2:=fr_len (f.tsign_ok hf k i).tag (.slice p n c)
 have hsl:=signed_len f
 refine Spc.en func91 rfl rfl (fun w0 hw0=> ?_)
 refine CW.sg [0,1,2] [] (RL.box rfl ?_)
 intro b1
 refine RL.box rfl ?_
 intro b2
 refine RL.al zeroValue78 rfl ?_
 intro b3
 refine RL.ns (CW.ss (CW.rD (Sq.of (rg 0 8)) [5,8] [8] [1,2,7] mixed zi ?_))
 refine RL.lS isAgg31 sizeOf31 rfl ?_
 refine RL.p rfl (RL.conv runUnderlying61 runUnderlying32 rfl (RL.vq (rderive_w k hk gnssL zc i hi) call136 rfl ?_))
 refine RL.lS isAgg78 sizeOf78 rfl ?_
 refine RL.cq (rsigned_any f p c n hf hn hb) call97 rfl (.inl rfl) ?_
 rintro _ _ _ ⟨ob1,cap1,rfl,rfl,rfl,ho1⟩
 refine RL.vv (rtag_any (tagK k i) (tderive_len _ _ _) (ob1.map fun b=> ⟨b,0,none⟩) (14+n) cap1 f.signed zb zb) call96 rfl (Lend.own mQ .nil) ?_
 refine RL.fa fa_78_5 rfl (RL.storeSeg (cs:=f.cells (.slice p n c)) (cs':=(f.tsign k i).cells (.slice p n c)) (vs:=bytes (macTag (tagK k i) f.signed)) [.int .i64 f.kd, .int .i64 f.sr, .int .u32 (f.ep:Int), .int .u64 (f.ct:Int), .slice p n c] (bytes f.tag) [] sizeOf76 rfl (ones_map one8 _) (tsign_seg f _) (by rw [tsign_seg];rfl) rfl (by rw [List.length_map,hf.tag]) (by rw [List.length_map,macTag_len]) uE ?_)
 refine RL.ns (CW.ok [5,6] rfl (CW.sg [1] [1] (RL.lS isAgg78 sizeOf78 rfl ?_)))
 refine RL.sW sizeOf78 rfl (ones_fr _ rfl) uE hl2 rfl ?_
 refine RL.ns (CW.rr ?_)
 exact RQ.pp (resW rfl rfl isAgg78 sizeOf78 mQ hl2) (Split.nn _) ⟨rfl,rfl,rfl⟩
end Go.Proofs.YtkineolcmdecjaaGreat
