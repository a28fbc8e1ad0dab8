import Derived.Test.YtkineolcmdecjaaGreatKA
import Derived.Test.YtkineolcmdecjaaGreatBA
namespace Go.Proofs.YtkineolcmdecjaaGreat
open Go.PK
open Tryz
set_option linter.unusedSimpArgs false
theorem rget_1 (d br:Nat) (p:Option Addr) (c:Nat) (l:List B8) (hl:l.length=24) (hc:l.length≤c):Spc prog 146 #[.pointer (some ⟨d,0,none⟩), .pointer (some ⟨br,0,none⟩)] [sls p 1 l.length (bytes l)] [rdr d p l.length c,cel br (Rdg.cells (rz 1)) 69]
  (fun _ I' H'=> I'= []∧∃x,H'= [x,cel br (Rdg.cells (getR 1 l)) 69]):=by
 have hl0:=Lies.refl (sls p 1 l.length (bytes l))
 refine Spc.en func146 rfl rfl (fun w0 hw0=> ?_)
 refine CW.sr (RL.q rfl (RL.fa fa_69_0 rfl (RL.lq isAgg3 rfl ?_)))
 refine RL.ns (CW.bs (CW.bs (CW.bs (CW.bs (CW.bs (CW.bs ?_))))))
 refine CW.bs (CW.bs (CW.bs (CW.bs (CW.bs (CW.bs (CW.bs ?_))))))
 refine CW.ss (CW.s1 rfl (CW.cT rfl (rfl) (CW.xx (XQ.ss (XQ.ss (XQ.hh (NQ.ss (CW.ok [0,1] rfl ?_))))))))
 refine CW.ss (CW.sg [2,5] [2,5] (RL.q rfl (RL.cc (rthree_any d p c l zb hc) call171 rfl pE (Lend.sub hl0 mQ .nil) (.inr rfl) ?_)))
 rintro _ _ _ ⟨rfl,rfl,q1,k1,rfl,hc1,hk1⟩
 rw [show 4*3=12 from rfl] at hc1 hk1 ⊢
 have hl1:=hl0.trans hk1
 refine RL.p rfl (RL.fa fa_69_1 rfl (RL.sX (cs':=spl _ (0+1) [f32 l 0,f32 l 1,f32 l 2]) (vs:= [f32 l 0,f32 l 1,f32 l 2]) rfl sizeOf66 rfl rfl uE (Nat.le_of_ble_eq_true rfl) ?_))
 refine RL.ns (CW.rn (ef:= [2,5]) (bk:= [2,5]) (RL.q rfl (RL.cc (rthree_any d q1 k1 (l.drop 12) (by rw [List.length_drop];omega) hc1) call171 rfl pE (Lend.sub hl1 mQ .nil) (.inr rfl) ?_)))
 rintro _ _ _ ⟨rfl,rfl,q2,k2,rfl,hc2,hk2⟩
 rw [List.drop_drop] at hc2 hk2 ⊢
 rw [show 4*3=12 from rfl] at hc2 hk2 ⊢
 rw [show 12+12=24 from rfl] at hc2 hk2 ⊢
 have hl2:=hl1.trans hk2
 refine RL.p rfl (RL.fa fa_69_2 rfl (RL.sX (cs':=spl _ (0+4) [f32 (l.drop 12) 0,f32 (l.drop 12) 1,f32 (l.drop 12) 2]) (vs:= [f32 (l.drop 12) 0,f32 (l.drop 12) 1,f32 (l.drop 12) 2]) rfl sizeOf66 rfl rfl uE (Nat.le_of_ble_eq_true rfl) ?_))
 refine RL.ns (CW.ok [0,1] rfl (CW.xx (XQ.mm rfl (XQ.ss (XQ.mm rfl (XQ.ss (XQ.mm rfl (XQ.ss (XQ.mm rfl (XQ.ss (XQ.mm rfl (XQ.ss ?_))))))))))))
 refine XQ.mm rfl (XQ.ss (XQ.mm rfl (XQ.ss (XQ.mm rfl (XQ.ss (XQ.mm rfl (XQ.ss (XQ.mm rfl (XQ.ss (XQ.mm rfl (XQ.ss (XQ.hh ?_))))))))))))
 refine NQ.post (res0 rfl) (.keep (.keep .nil)) ⟨rfl,_,congrArg (fun z=> [_,cel br z _]) ?_⟩
 simp only [f32,f64,List.drop_drop,Nat.reduceMul,Nat.reduceAdd,u32_nat,u32_nat0,u16_nat,ofInt_nat8,ofNat_nat8]
 rfl
theorem rget_2 (d br:Nat) (p:Option Addr) (c:Nat) (l:List B8) (hl:l.length=8) (hc:l.length≤c):Spc prog 146 #[.pointer (some ⟨d,0,none⟩), .pointer (some ⟨br,0,none⟩)] [sls p 1 l.length (bytes l)] [rdr d p l.length c,cel br (Rdg.cells (rz 2)) 69]
  (fun _ I' H'=> I'= []∧∃x,H'= [x,cel br (Rdg.cells (getR 2 l)) 69]):=by
 have hl0:=Lies.refl (sls p 1 l.length (bytes l))
 refine Spc.en func146 rfl rfl (fun w0 hw0=> ?_)
 refine CW.sr (RL.q rfl (RL.fa fa_69_0 rfl (RL.lq isAgg3 rfl ?_)))
 refine RL.ns (CW.bs (CW.bs (CW.bs (CW.bs (CW.bs (CW.bs ?_))))))
 refine CW.bs (CW.bs (CW.bs (CW.bs (CW.bs (CW.bs (CW.bs ?_))))))
 refine CW.ss (CW.s1 rfl (CW.cF rfl (rfl) (CW.sn (CW.ss (CW.sr (RL.p rfl ?_))))))
 refine RL.pn rfl (CW.ok [0,1,7,10] rfl (CW.cT rfl (rfl) (CW.xx (XQ.ss (XQ.ss (XQ.mm rfl (XQ.ss (XQ.hh (NQ.ss (CW.sg [2,5] [2,5] ?_))))))))))
 refine RL.q rfl (RL.cc (rfix_any d p c l zb hc) call172 rfl pE (Lend.sub hl0 mQ .nil) (.inr rfl) ?_)
 rintro _ _ _ ⟨rfl,rfl,q1,k1,rfl,hc1,hk1⟩
 have hl1:=hl0.trans hk1
 refine RL.p rfl (RL.fa fa_69_3 rfl (RL.store (vs:= [_]) sizeOf25 rfl rfl uE ?_))
 refine RL.ns (CW.ok [0,1] rfl (CW.xx (XQ.mm rfl (XQ.ss (XQ.mm rfl (XQ.ss (XQ.mm rfl (XQ.ss (XQ.mm rfl (XQ.ss (XQ.mm rfl (XQ.ss ?_))))))))))))
 refine XQ.mm rfl (XQ.ss (XQ.mm rfl (XQ.ss (XQ.mm rfl (XQ.ss (XQ.mm rfl (XQ.ss (XQ.mm rfl (XQ.ss (XQ.hh ?_))))))))))
 refine NQ.post (res0 rfl) (.keep (.keep .nil)) ⟨rfl,_,congrArg (fun z=> [_,cel br z _]) ?_⟩
 simp only [f32,f64,List.drop_drop,Nat.reduceMul,Nat.reduceAdd,u32_nat,u32_nat0,u16_nat,ofInt_nat8,ofNat_nat8]
 rfl
theorem rget_3 (d br:Nat) (p:Option Addr) (c:Nat) (l:List B8) (hl:l.length=4) (hc:l.length≤c):Spc prog 146 #[.pointer (some ⟨d,0,none⟩), .pointer (some ⟨br,0,none⟩)] [sls p 1 l.length (bytes l)] [rdr d p l.length c,cel br (Rdg.cells (rz 3)) 69]
  (fun _ I' H'=> I'= []∧∃x,H'= [x,cel br (Rdg.cells (getR 3 l)) 69]):=by
 have hl0:=Lies.refl (sls p 1 l.length (bytes l))
 refine Spc.en func146 rfl rfl (fun w0 hw0=> ?_)
 refine CW.sr (RL.q rfl (RL.fa fa_69_0 rfl (RL.lq isAgg3 rfl ?_)))
 refine RL.ns (CW.bs (CW.bs (CW.bs (CW.bs (CW.bs (CW.bs ?_))))))
 refine CW.bs (CW.bs (CW.bs (CW.bs (CW.bs (CW.bs (CW.bs ?_))))))
 refine CW.ss (CW.s1 rfl (CW.cF rfl (rfl) (CW.sn (CW.ss (CW.sr (RL.p rfl ?_))))))
 refine RL.pn rfl (CW.ok [0,1,7,10] rfl (CW.cF rfl (rfl) (CW.sn (CW.ss (CW.s1 rfl ?_)))))
 refine CW.cT rfl (rfl) (CW.xx (XQ.ss (XQ.ss (XQ.mm rfl (XQ.ss (XQ.mm rfl (XQ.ss (XQ.hh (NQ.ss (CW.sg [2,6] [2,6] (RL.q rfl ?_)))))))))))
 refine RL.cc (rnum_any d p 4 c l zb hc zc) call173 rfl pE (Lend.sub hl0 mQ .nil) (.inr rfl) ?_
 rintro _ _ _ ⟨rfl,rfl,q1,k1,rfl,hc1,hk1⟩
 have hl1:=hl0.trans hk1
 refine RL.conv runUnderlying32 runUnderlying61 rfl (RL.p rfl (RL.fa fa_69_4 rfl (RL.store (vs:= [_]) sizeOf61 rfl rfl uE ?_)))
 refine RL.ns (CW.ok [0,1] rfl (CW.xx (XQ.mm rfl (XQ.ss (XQ.mm rfl (XQ.ss (XQ.mm rfl (XQ.ss (XQ.mm rfl (XQ.ss (XQ.mm rfl (XQ.ss ?_))))))))))))
 refine XQ.mm rfl (XQ.ss (XQ.mm rfl (XQ.ss (XQ.mm rfl (XQ.ss (XQ.mm rfl (XQ.ss (XQ.hh ?_))))))))
 refine NQ.post (res0 rfl) (.keep (.keep .nil)) ⟨rfl,_,congrArg (fun z=> [_,cel br z _]) ?_⟩
 simp only [f32,f64,List.drop_drop,Nat.reduceMul,Nat.reduceAdd,u32_nat,u32_nat0,u16_nat,ofInt_nat8,ofNat_nat8]
 rfl
theorem rget_4 (d br:Nat) (p:Option Addr) (c:Nat) (l:List B8) (hl:l.length=8) (hc:l.length≤c):Spc prog 146 #[.pointer (some ⟨d,0,none⟩), .pointer (some ⟨br,0,none⟩)] [sls p 1 l.length (bytes l)] [rdr d p l.length c,cel br (Rdg.cells (rz 4)) 69]
  (fun _ I' H'=> I'= []∧∃x,H'= [x,cel br (Rdg.cells (getR 4 l)) 69]):=by
 have hl0:=Lies.refl (sls p 1 l.length (bytes l))
 refine Spc.en func146 rfl rfl (fun w0 hw0=> ?_)
 refine CW.sr (RL.q rfl (RL.fa fa_69_0 rfl (RL.lq isAgg3 rfl ?_)))
 refine RL.ns (CW.bs (CW.bs (CW.bs (CW.bs (CW.bs (CW.bs ?_))))))
 refine CW.bs (CW.bs (CW.bs (CW.bs (CW.bs (CW.bs (CW.bs ?_))))))
 refine CW.ss (CW.s1 rfl (CW.cF rfl (rfl) (CW.sn (CW.ss (CW.sr (RL.p rfl ?_))))))
 refine RL.pn rfl (CW.ok [0,1,7,10] rfl (CW.cF rfl (rfl) (CW.sn (CW.ss (CW.s1 rfl ?_)))))
 refine CW.cF rfl (rfl) (CW.sn (CW.ss (CW.s1 rfl (CW.cT rfl (rfl) (CW.xx (XQ.ss (XQ.ss ?_)))))))
 refine XQ.mm rfl (XQ.ss (XQ.mm rfl (XQ.ss (XQ.mm rfl (XQ.ss (XQ.hh (NQ.ss (CW.ok [0,1] rfl (CW.ss (CW.sg [2,5] [2,5] (RL.q rfl ?_)))))))))))
 refine RL.cc (rshort_any d p c l zb hc) call174 rfl pE (Lend.sub hl0 mQ .nil) (.inr rfl) ?_
 rintro _ _ _ ⟨rfl,rfl,q1,k1,rfl,hc1,hk1⟩
 have hl1:=hl0.trans hk1
 refine RL.p rfl (RL.fa fa_69_5 rfl (RL.store (vs:= [_]) sizeOf65 rfl rfl uE ?_))
 refine RL.ns (CW.rn (ef:= [2,6]) (bk:= [2,6]) (RL.q rfl (RL.cc (rnum_any d q1 4 k1 (l.drop 4) (by rw [List.length_drop];omega) hc1 zc) call173 rfl pE (Lend.sub hl1 mQ .nil) (.inr rfl) ?_)))
 rintro _ _ _ ⟨rfl,rfl,q2,k2,rfl,hc2,hk2⟩
 rw [List.drop_drop] at hc2 hk2 ⊢
 rw [show 4+4=8 from rfl] at hc2 hk2 ⊢
 have hl2:=hl1.trans hk2
 refine RL.conv runUnderlying32 runUnderlying61 rfl (RL.p rfl (RL.fa fa_69_6 rfl (RL.store (vs:= [_]) sizeOf61 rfl rfl uE ?_)))
 refine RL.ns (CW.ok [0,1] rfl (CW.xx (XQ.mm rfl (XQ.ss (XQ.mm rfl (XQ.ss (XQ.mm rfl (XQ.ss (XQ.mm rfl (XQ.ss (XQ.mm rfl (XQ.ss ?_))))))))))))
 refine XQ.mm rfl (XQ.ss (XQ.mm rfl (XQ.ss (XQ.mm rfl (XQ.ss (XQ.hh ?_))))))
 refine NQ.post (res0 rfl) (.keep (.keep .nil)) ⟨rfl,_,congrArg (fun z=> [_,cel br z _]) ?_⟩
 simp only [f32,f64,List.drop_drop,Nat.reduceMul,Nat.reduceAdd,u32_nat,u32_nat0,u16_nat,ofInt_nat8,ofNat_nat8]
 rfl
theorem rget_5 (d br:Nat) (p:Option Addr) (c:Nat) (l:List B8) (hl:l.length=29) (hc:l.length≤c):Spc prog 146 #[.pointer (some ⟨d,0,none⟩), .pointer (some ⟨br,0,none⟩)] [sls p 1 l.length (bytes l)] [rdr d p l.length c,cel br (Rdg.cells (rz 5)) 69]
  (fun _ I' H'=> I'= []∧∃x,H'= [x,cel br (Rdg.cells (getR 5 l)) 69]):=by
 have hl0:=Lies.refl (sls p 1 l.length (bytes l))
 refine Spc.en func146 rfl rfl (fun w0 hw0=> ?_)
 refine CW.sr (RL.q rfl (RL.fa fa_69_0 rfl (RL.lq isAgg3 rfl ?_)))
 refine RL.ns (CW.bs (CW.bs (CW.bs (CW.bs (CW.bs (CW.bs ?_))))))
 refine CW.bs (CW.bs (CW.bs (CW.bs (CW.bs (CW.bs (CW.bs ?_))))))
 refine CW.ss (CW.s1 rfl (CW.cF rfl (rfl) (CW.sn (CW.ss (CW.sr (RL.p rfl ?_))))))
 refine RL.pn rfl (CW.ok [0,1,7,10] rfl (CW.cF rfl (rfl) (CW.sn (CW.ss (CW.s1 rfl ?_)))))
 refine CW.cF rfl (rfl) (CW.sn (CW.ss (CW.s1 rfl (CW.cF rfl (rfl) (CW.sn (CW.ss ?_))))))
 refine CW.s1 rfl (CW.ok [0,1,7,16] rfl (CW.cT rfl (rfl) (CW.xx (XQ.ss (XQ.ss (XQ.mm rfl (XQ.ss (XQ.mm rfl ?_))))))))
 refine XQ.ss (XQ.mm rfl (XQ.ss (XQ.mm rfl (XQ.ss (XQ.hh (NQ.ss (CW.ss (CW.sg [2,6] [2,6] (RL.q rfl (RL.cc (rnum_any d p 4 c l zb hc zc) call173 rfl pE (Lend.sub hl0 mQ .nil) (.inr rfl) ?_))))))))))
 rintro _ _ _ ⟨rfl,rfl,q1,k1,rfl,hc1,hk1⟩
 have hl1:=hl0.trans hk1
 refine RL.conv runUnderlying32 runUnderlying61 rfl (RL.p rfl (RL.fa fa_69_7 rfl (RL.store (vs:= [_]) sizeOf61 rfl rfl uE ?_)))
 refine RL.ns (CW.ok [0,1] rfl (CW.sg [2,6] [2,6] (RL.q rfl (RL.cc (rnum_any d q1 1 k1 (l.drop 4) (by rw [List.length_drop];omega) hc1 zc) call173 rfl pE (Lend.sub hl1 mQ .nil) (.inr rfl) ?_))))
 rintro _ _ _ ⟨rfl,rfl,q2,k2,rfl,hc2,hk2⟩
 rw [List.drop_drop] at hc2 hk2 ⊢
 rw [show 4+1=5 from rfl] at hc2 hk2 ⊢
 have hl2:=hl1.trans hk2
 refine RL.lowest runUnderlying32 runUnderlying5 rfl (RL.p rfl (RL.fa fa_69_8 rfl (RL.store (vs:= [_]) sizeOf5 rfl rfl uE ?_)))
 refine RL.ns (CW.ok [0,1] rfl (CW.rn (ef:= [2,5]) (bk:= [2,5]) (RL.q rfl (RL.cc (rvec_any d q2 k2 (l.drop 5) (by rw [List.length_drop];omega) hc2) call175 rfl pE (Lend.sub hl2 mQ .nil) (.inr rfl) ?_))))
 rintro _ _ _ ⟨rfl,rfl,q3,k3,rfl,hc3,hk3⟩
 rw [List.drop_drop] at hc3 hk3 ⊢
 rw [show 8*3=24 from rfl] at hc3 hk3 ⊢
 rw [show 5+24=29 from rfl] at hc3 hk3 ⊢
 have hl3:=hl2.trans hk3
 refine RL.p rfl (RL.fa fa_69_9 rfl (RL.sX (cs':=spl _ (0+13) [f64 (l.drop 5) 0,f64 (l.drop 5) 1,f64 (l.drop 5) 2]) (vs:= [f64 (l.drop 5) 0,f64 (l.drop 5) 1,f64 (l.drop 5) 2]) rfl sizeOf27 rfl rfl uE (Nat.le_of_ble_eq_true rfl) ?_))
 refine RL.ns (CW.xx (XQ.mm rfl (XQ.ss (XQ.mm rfl (XQ.ss (XQ.mm rfl (XQ.ss (XQ.mm rfl (XQ.ss (XQ.mm rfl (XQ.ss (XQ.mm rfl ?_))))))))))))
 refine XQ.ss (XQ.mm rfl (XQ.ss (XQ.hh ?_)))
 refine NQ.post (res0 rfl) (.keep (.keep .nil)) ⟨rfl,_,congrArg (fun z=> [_,cel br z _]) ?_⟩
 simp only [f32,f64,List.drop_drop,Nat.reduceMul,Nat.reduceAdd,u32_nat,u32_nat0,u16_nat,bat_nat l 4 zb,ofInt_nat8,ofNat_nat8]
 rfl
theorem rget_6 (d br:Nat) (p:Option Addr) (c:Nat) (l:List B8) (hl:l.length=36) (hc:l.length≤c):Spc prog 146 #[.pointer (some ⟨d,0,none⟩), .pointer (some ⟨br,0,none⟩)] [sls p 1 l.length (bytes l)] [rdr d p l.length c,cel br (Rdg.cells (rz 6)) 69]
  (fun _ I' H'=> I'= []∧∃x,H'= [x,cel br (Rdg.cells (getR 6 l)) 69]):=by
 have hl0:=Lies.refl (sls p 1 l.length (bytes l))
 refine Spc.en func146 rfl rfl (fun w0 hw0=> ?_)
 refine CW.sr (RL.q rfl (RL.fa fa_69_0 rfl (RL.lq isAgg3 rfl ?_)))
 refine RL.ns (CW.bs (CW.bs (CW.bs (CW.bs (CW.bs (CW.bs ?_))))))
 refine CW.bs (CW.bs (CW.bs (CW.bs (CW.bs (CW.bs (CW.bs ?_))))))
 refine CW.ss (CW.s1 rfl (CW.cF rfl (rfl) (CW.sn (CW.ss (CW.sr (RL.p rfl ?_))))))
 refine RL.pn rfl (CW.ok [0,1,7,10] rfl (CW.cF rfl (rfl) (CW.sn (CW.ss (CW.s1 rfl ?_)))))
 refine CW.cF rfl (rfl) (CW.sn (CW.ss (CW.s1 rfl (CW.cF rfl (rfl) (CW.sn (CW.ss ?_))))))
 refine CW.s1 rfl (CW.ok [0,1,7,16] rfl (CW.cF rfl (rfl) (CW.sn (CW.ss (CW.sr (RL.p rfl ?_))))))
 refine RL.pn rfl (CW.cT rfl (rfl) (CW.xx (XQ.ss (XQ.ss (XQ.mm rfl (XQ.ss (XQ.mm rfl (XQ.ss (XQ.mm rfl (XQ.ss (XQ.mm rfl ?_)))))))))))
 refine XQ.ss (XQ.mm rfl (XQ.ss (XQ.hh (NQ.ss (CW.ss (CW.sg [2,6] [2,6] (RL.q rfl (RL.cc (rnum_any d p 4 c l zb hc zc) call173 rfl pE (Lend.sub hl0 mQ .nil) (.inr rfl) ?_))))))))
 rintro _ _ _ ⟨rfl,rfl,q1,k1,rfl,hc1,hk1⟩
 have hl1:=hl0.trans hk1
 refine RL.conv runUnderlying32 runUnderlying61 rfl (RL.p rfl (RL.fa fa_69_7 rfl (RL.store (vs:= [_]) sizeOf61 rfl rfl uE ?_)))
 refine RL.ns (CW.ok [0,1] rfl (CW.sub hl1 mQ ?_))
 refine CW.ff (p:=q1=none→(l.drop 4).length=0) (fun w hC e=> sls_nil (hC.s.i _ (List.Mem.head _)) e) (fun hpp=> ?_)
 obtain ⟨q,rfl⟩:∃a,q1=some a:=by
  cases q1 with
  | none=> exact absurd (hpp rfl) (by rw [List.length_drop];omega)
  | some a=> exact ⟨a,rfl⟩
 refine CW.rn (ef:= [2,7]) (bk:= [2,7]) (RL.q rfl (RL.cq (take_any d (some q) 32 (l.drop 4).length k1 (by rw [List.length_drop];omega) hc1) call176 rfl (.inr rfl) ?_))
 rintro _ _ _ ⟨rfl,rfl,rfl⟩
 rw [if_neg (show¬k1=0 by rw [List.length_drop] at hc1;omega)]
 refine RL.toArr runUnderlying31 rfl rfl (by first | decide | omega) ?_
 refine RL.ld (vs:=keyV (fun j=> bat l (4+j))) isAgg31 sizeOf31 rfl ((Rds.sls mQ).part (pre32 zb)) ?_
 refine RL.p rfl (RL.fa fa_69_10 rfl (RL.sX (cs':=spl _ (0+16) (keyV (fun j=> bat l (4+j)))) (vs:=keyV (fun j=> bat l (4+j))) rfl sizeOf31 rfl rfl uE (Nat.le_of_ble_eq_true rfl) ?_))
 refine RL.ns (CW.ok [0,1] rfl (CW.xx (XQ.mm rfl (XQ.ss (XQ.mm rfl (XQ.ss (XQ.mm rfl (XQ.ss (XQ.mm rfl (XQ.ss (XQ.mm rfl (XQ.ss ?_))))))))))))
 refine XQ.mm rfl (XQ.ss (XQ.hh ?_))
 refine NQ.post (res0 rfl) (.keep (.keep .nil)) ⟨rfl,_,congrArg (fun z=> [_,cel br z _]) ?_⟩
 simp only [f32,f64,List.drop_drop,Nat.reduceMul,Nat.reduceAdd,u32_nat,u32_nat0,u16_nat,ofInt_nat8,ofNat_nat8]
 rfl
theorem rget_7 (d br:Nat) (p:Option Addr) (c:Nat) (l:List B8) (hl:l.length=8) (hc:l.length≤c):Spc prog 146 #[.pointer (some ⟨d,0,none⟩), .pointer (some ⟨br,0,none⟩)] [sls p 1 l.length (bytes l)] [rdr d p l.length c,cel br (Rdg.cells (rz 7)) 69]
  (fun _ I' H'=> I'= []∧∃x,H'= [x,cel br (Rdg.cells (getR 7 l)) 69]):=by
 have hl0:=Lies.refl (sls p 1 l.length (bytes l))
 refine Spc.en func146 rfl rfl (fun w0 hw0=> ?_)
 refine CW.sr (RL.q rfl (RL.fa fa_69_0 rfl (RL.lq isAgg3 rfl ?_)))
 refine RL.ns (CW.bs (CW.bs (CW.bs (CW.bs (CW.bs (CW.bs ?_))))))
 refine CW.bs (CW.bs (CW.bs (CW.bs (CW.bs (CW.bs (CW.bs ?_))))))
 refine CW.ss (CW.s1 rfl (CW.cF rfl (rfl) (CW.sn (CW.ss (CW.sr (RL.p rfl ?_))))))
 refine RL.pn rfl (CW.ok [0,1,7,10] rfl (CW.cF rfl (rfl) (CW.sn (CW.ss (CW.s1 rfl ?_)))))
 refine CW.cF rfl (rfl) (CW.sn (CW.ss (CW.s1 rfl (CW.cF rfl (rfl) (CW.sn (CW.ss ?_))))))
 refine CW.s1 rfl (CW.ok [0,1,7,16] rfl (CW.cF rfl (rfl) (CW.sn (CW.ss (CW.sr (RL.p rfl ?_))))))
 refine RL.pn rfl (CW.cF rfl (rfl) (CW.sn (CW.ss (CW.s1 rfl (CW.cT rfl (rfl) ?_)))))
 refine CW.xx (XQ.ss (XQ.ss (XQ.mm rfl (XQ.ss (XQ.mm rfl (XQ.ss (XQ.mm rfl (XQ.ss (XQ.mm rfl (XQ.ss (XQ.mm rfl (XQ.ss (XQ.mm rfl ?_)))))))))))))
 refine XQ.ss (XQ.hh (NQ.ss (CW.ok [0,1] rfl (CW.sg [2,5] [2,5] (RL.q rfl (RL.cc (rnum_any d p 8 c l zb hc zc) call173 rfl pE (Lend.sub hl0 mQ .nil) (.inr rfl) ?_))))))
 rintro _ _ _ ⟨rfl,rfl,q1,k1,rfl,hc1,hk1⟩
 have hl1:=hl0.trans hk1
 refine RL.p rfl (RL.fa fa_69_11 rfl (RL.store (vs:= [_]) sizeOf32 rfl rfl uE ?_))
 refine RL.ns (CW.xx (XQ.mm rfl (XQ.ss (XQ.mm rfl (XQ.ss (XQ.mm rfl (XQ.ss (XQ.mm rfl (XQ.ss (XQ.mm rfl (XQ.ss (XQ.hh ?_))))))))))))
 refine NQ.post (res0 rfl) (.keep (.keep .nil)) ⟨rfl,_,congrArg (fun z=> [_,cel br z _]) ?_⟩
 simp only [f32,f64,List.drop_drop,Nat.reduceMul,Nat.reduceAdd,u32_nat,u32_nat0,u16_nat,ofInt_nat8,ofNat_nat8]
 rfl
theorem rget_8 (d br:Nat) (p:Option Addr) (c:Nat) (l:List B8) (hl:l.length=1) (hc:l.length≤c):Spc prog 146 #[.pointer (some ⟨d,0,none⟩), .pointer (some ⟨br,0,none⟩)] [sls p 1 l.length (bytes l)] [rdr d p l.length c,cel br (Rdg.cells (rz 8)) 69]
  (fun _ I' H'=> I'= []∧∃x,H'= [x,cel br (Rdg.cells (getR 8 l)) 69]):=by
 have hl0:=Lies.refl (sls p 1 l.length (bytes l))
 refine Spc.en func146 rfl rfl (fun w0 hw0=> ?_)
 refine CW.sr (RL.q rfl (RL.fa fa_69_0 rfl (RL.lq isAgg3 rfl ?_)))
 refine RL.ns (CW.bs (CW.bs (CW.bs (CW.bs (CW.bs (CW.bs ?_))))))
 refine CW.bs (CW.bs (CW.bs (CW.bs (CW.bs (CW.bs (CW.bs ?_))))))
 refine CW.ss (CW.s1 rfl (CW.cF rfl (rfl) (CW.sn (CW.ss (CW.sr (RL.p rfl ?_))))))
 refine RL.pn rfl (CW.ok [0,1,7,10] rfl (CW.cF rfl (rfl) (CW.sn (CW.ss (CW.s1 rfl ?_)))))
 refine CW.cF rfl (rfl) (CW.sn (CW.ss (CW.s1 rfl (CW.cF rfl (rfl) (CW.sn (CW.ss ?_))))))
 refine CW.s1 rfl (CW.ok [0,1,7,16] rfl (CW.cF rfl (rfl) (CW.sn (CW.ss (CW.sr (RL.p rfl ?_))))))
 refine RL.pn rfl (CW.cF rfl (rfl) (CW.sn (CW.ss (CW.s1 rfl (CW.cF rfl (rfl) ?_)))))
 refine CW.sn (CW.ss (CW.s1 rfl (CW.ok [0,1,7,22] rfl (CW.cT rfl (rfl) (CW.xx (XQ.ss (XQ.ss ?_)))))))
 refine XQ.mm rfl (XQ.ss (XQ.mm rfl (XQ.ss (XQ.mm rfl (XQ.ss (XQ.mm rfl (XQ.ss (XQ.mm rfl (XQ.ss (XQ.mm rfl (XQ.ss (XQ.mm rfl (XQ.ss ?_)))))))))))))
 refine XQ.hh (NQ.ss (CW.sg [2,6] [2,6] (RL.q rfl (RL.cc (rnum_any d p 1 c l zb hc zc) call173 rfl pE (Lend.sub hl0 mQ .nil) (.inr rfl) ?_))))
 rintro _ _ _ ⟨rfl,rfl,q1,k1,rfl,hc1,hk1⟩
 have hl1:=hl0.trans hk1
 refine RL.lowest runUnderlying32 runUnderlying5 rfl (RL.p rfl (RL.fa fa_69_12 rfl (RL.store (vs:= [_]) sizeOf5 rfl rfl uE ?_)))
 refine RL.ns (CW.ok [0,1] rfl (CW.xx (XQ.mm rfl (XQ.ss (XQ.mm rfl (XQ.ss (XQ.mm rfl (XQ.ss (XQ.mm rfl (XQ.ss (XQ.hh ?_)))))))))))
 refine NQ.post (res0 rfl) (.keep (.keep .nil)) ⟨rfl,_,congrArg (fun z=> [_,cel br z _]) ?_⟩
 simp only [f32,f64,List.drop_drop,Nat.reduceMul,Nat.reduceAdd,u32_nat,u32_nat0,u16_nat,bat_nat0 l zb,ofInt_nat8,ofNat_nat8]
 rfl
theorem rget_9 (d br:Nat) (p:Option Addr) (c:Nat) (l:List B8) (hl:l.length=0) (hc:l.length≤c):Spc prog 146 #[.pointer (some ⟨d,0,none⟩), .pointer (some ⟨br,0,none⟩)] [sls p 1 l.length (bytes l)] [rdr d p l.length c,cel br (Rdg.cells (rz 9)) 69]
  (fun _ I' H'=> I'= []∧∃x,H'= [x,cel br (Rdg.cells (getR 9 l)) 69]):=by
 refine Spc.en func146 rfl rfl (fun w0 hw0=> ?_)
 refine CW.sr (RL.q rfl (RL.fa fa_69_0 rfl (RL.lq isAgg3 rfl ?_)))
 refine RL.ns (CW.bs (CW.bs (CW.bs (CW.bs (CW.bs (CW.bs ?_))))))
 refine CW.bs (CW.bs (CW.bs (CW.bs (CW.bs (CW.bs (CW.bs ?_))))))
 refine CW.ss (CW.s1 rfl (CW.cF rfl (rfl) (CW.sn (CW.ss (CW.sr (RL.p rfl ?_))))))
 refine RL.pn rfl (CW.ok [0,1,7,10] rfl (CW.cF rfl (rfl) (CW.sn (CW.ss (CW.s1 rfl ?_)))))
 refine CW.cF rfl (rfl) (CW.sn (CW.ss (CW.s1 rfl (CW.cF rfl (rfl) (CW.sn (CW.ss ?_))))))
 refine CW.s1 rfl (CW.ok [0,1,7,16] rfl (CW.cF rfl (rfl) (CW.sn (CW.ss (CW.sr (RL.p rfl ?_))))))
 refine RL.pn rfl (CW.cF rfl (rfl) (CW.sn (CW.ss (CW.s1 rfl (CW.cF rfl (rfl) ?_)))))
 refine CW.sn (CW.ss (CW.s1 rfl (CW.ok [0,1,7,22] rfl (CW.cF rfl (rfl) (CW.sn (CW.ss ?_))))))
 refine CW.s1 rfl (CW.cF rfl (rfl) (CW.sn (CW.ss (CW.sr (RL.q rfl ?_)))))
 refine RL.ns (CW.cF rfl (rfl) (CW.sn (CW.ss (CW.s1 rfl (CW.ok [0,1,7,28] rfl (CW.cF rfl (rfl) ?_))))))
 refine CW.sn (CW.s1 rfl (CW.cF rfl (rfl) (CW.sn (CW.xx (XQ.mm rfl (XQ.ss ?_))))))
 refine XQ.mm rfl (XQ.ss (XQ.mm rfl (XQ.ss (XQ.mm rfl (XQ.ss (XQ.mm rfl (XQ.ss (XQ.mm rfl (XQ.ss (XQ.mm rfl (XQ.ss (XQ.mm rfl (XQ.ss ?_)))))))))))))
 refine XQ.mm rfl (XQ.ss (XQ.mm rfl (XQ.ss (XQ.mm rfl (XQ.ss (XQ.mm rfl (XQ.ss (XQ.hh ?_))))))))
 exact NQ.post (res0 rfl) (.keep (.keep .nil)) ⟨rfl,_,rfl⟩
theorem rget_10 (d br:Nat) (p:Option Addr) (c:Nat) (l:List B8) (hl:l.length=4) (hc:l.length≤c):Spc prog 146 #[.pointer (some ⟨d,0,none⟩), .pointer (some ⟨br,0,none⟩)] [sls p 1 l.length (bytes l)] [rdr d p l.length c,cel br (Rdg.cells (rz 10)) 69]
  (fun _ I' H'=> I'= []∧∃x,H'= [x,cel br (Rdg.cells (getR 10 l)) 69]):=by
 have hl0:=Lies.refl (sls p 1 l.length (bytes l))
 refine Spc.en func146 rfl rfl (fun w0 hw0=> ?_)
 refine CW.sr (RL.q rfl (RL.fa fa_69_0 rfl (RL.lq isAgg3 rfl ?_)))
 refine RL.ns (CW.bs (CW.bs (CW.bs (CW.bs (CW.bs (CW.bs ?_))))))
 refine CW.bs (CW.bs (CW.bs (CW.bs (CW.bs (CW.bs (CW.bs ?_))))))
 refine CW.ss (CW.s1 rfl (CW.cF rfl (rfl) (CW.sn (CW.ss (CW.sr (RL.p rfl ?_))))))
 refine RL.pn rfl (CW.ok [0,1,7,10] rfl (CW.cF rfl (rfl) (CW.sn (CW.ss (CW.s1 rfl ?_)))))
 refine CW.cF rfl (rfl) (CW.sn (CW.ss (CW.s1 rfl (CW.cF rfl (rfl) (CW.sn (CW.ss ?_))))))
 refine CW.s1 rfl (CW.ok [0,1,7,16] rfl (CW.cF rfl (rfl) (CW.sn (CW.ss (CW.sr (RL.p rfl ?_))))))
 refine RL.pn rfl (CW.cF rfl (rfl) (CW.sn (CW.ss (CW.s1 rfl (CW.cF rfl (rfl) ?_)))))
 refine CW.sn (CW.ss (CW.s1 rfl (CW.ok [0,1,7,22] rfl (CW.cF rfl (rfl) (CW.sn (CW.ss ?_))))))
 refine CW.s1 rfl (CW.cF rfl (rfl) (CW.sn (CW.ss (CW.sr (RL.q rfl ?_)))))
 refine RL.ns (CW.cF rfl (rfl) (CW.sn (CW.ss (CW.s1 rfl (CW.ok [0,1,7,28] rfl (CW.cF rfl (rfl) ?_))))))
 refine CW.sn (CW.s1 rfl (CW.cT rfl (rfl) (CW.xx (XQ.ss (XQ.mm rfl (XQ.ss (XQ.mm rfl ?_)))))))
 refine XQ.ss (XQ.mm rfl (XQ.ss (XQ.mm rfl (XQ.ss (XQ.mm rfl (XQ.ss (XQ.mm rfl (XQ.ss (XQ.mm rfl (XQ.ss (XQ.mm rfl (XQ.ss (XQ.mm rfl ?_)))))))))))))
 refine XQ.ss (XQ.mm rfl (XQ.ss (XQ.mm rfl (XQ.ss (XQ.hh (NQ.ss (CW.sg [2,6] [2,6] (RL.q rfl (RL.cc (rnum_any d p 4 c l zb hc zc) call173 rfl pE (Lend.sub hl0 mQ .nil) (.inr rfl) ?_)))))))))
 rintro _ _ _ ⟨rfl,rfl,q1,k1,rfl,hc1,hk1⟩
 have hl1:=hl0.trans hk1
 refine RL.conv runUnderlying32 runUnderlying61 rfl (RL.p rfl (RL.fa fa_69_13 rfl (RL.store (vs:= [_]) sizeOf61 rfl rfl uE ?_)))
 refine RL.ns (CW.ok [] rfl (CW.xx (XQ.hh ?_)))
 refine NQ.post (res0 rfl) (.keep (.keep .nil)) ⟨rfl,_,congrArg (fun z=> [_,cel br z _]) ?_⟩
 simp only [f32,f64,List.drop_drop,Nat.reduceMul,Nat.reduceAdd,u32_nat,u32_nat0,u16_nat,ofInt_nat8,ofNat_nat8]
 rfl
theorem rget_11 (d br:Nat) (p:Option Addr) (c:Nat) (l:List B8) (hl:l.length=0) (hc:l.length≤c):Spc prog 146 #[.pointer (some ⟨d,0,none⟩), .pointer (some ⟨br,0,none⟩)] [sls p 1 l.length (bytes l)] [rdr d p l.length c,cel br (Rdg.cells (rz 11)) 69]
  (fun _ I' H'=> I'= []∧∃x,H'= [x,cel br (Rdg.cells (getR 11 l)) 69]):=by
 refine Spc.en func146 rfl rfl (fun w0 hw0=> ?_)
 refine CW.sr (RL.q rfl (RL.fa fa_69_0 rfl (RL.lq isAgg3 rfl ?_)))
 refine RL.ns (CW.bs (CW.bs (CW.bs (CW.bs (CW.bs (CW.bs ?_))))))
 refine CW.bs (CW.bs (CW.bs (CW.bs (CW.bs (CW.bs (CW.bs ?_))))))
 refine CW.ss (CW.s1 rfl (CW.cF rfl (rfl) (CW.sn (CW.ss (CW.sr (RL.p rfl ?_))))))
 refine RL.pn rfl (CW.ok [0,1,7,10] rfl (CW.cF rfl (rfl) (CW.sn (CW.ss (CW.s1 rfl ?_)))))
 refine CW.cF rfl (rfl) (CW.sn (CW.ss (CW.s1 rfl (CW.cF rfl (rfl) (CW.sn (CW.ss ?_))))))
 refine CW.s1 rfl (CW.ok [0,1,7,16] rfl (CW.cF rfl (rfl) (CW.sn (CW.ss (CW.sr (RL.p rfl ?_))))))
 refine RL.pn rfl (CW.cF rfl (rfl) (CW.sn (CW.ss (CW.s1 rfl (CW.cF rfl (rfl) ?_)))))
 refine CW.sn (CW.ss (CW.s1 rfl (CW.ok [0,1,7,22] rfl (CW.cF rfl (rfl) (CW.sn (CW.ss ?_))))))
 refine CW.s1 rfl (CW.cF rfl (rfl) (CW.sn (CW.ss (CW.sr (RL.q rfl ?_)))))
 refine RL.ns (CW.cF rfl (rfl) (CW.sn (CW.ss (CW.s1 rfl (CW.ok [0,1,7,28] rfl (CW.cF rfl (rfl) ?_))))))
 refine CW.sn (CW.s1 rfl (CW.cF rfl (rfl) (CW.sn (CW.xx (XQ.mm rfl (XQ.ss ?_))))))
 refine XQ.mm rfl (XQ.ss (XQ.mm rfl (XQ.ss (XQ.mm rfl (XQ.ss (XQ.mm rfl (XQ.ss (XQ.mm rfl (XQ.ss (XQ.mm rfl (XQ.ss (XQ.mm rfl (XQ.ss ?_)))))))))))))
 refine XQ.mm rfl (XQ.ss (XQ.mm rfl (XQ.ss (XQ.mm rfl (XQ.ss (XQ.mm rfl (XQ.ss (XQ.hh ?_))))))))
 exact NQ.post (res0 rfl) (.keep (.keep .nil)) ⟨rfl,_,rfl⟩
theorem rget_12 (d br:Nat) (p:Option Addr) (c:Nat) (l:List B8) (hl:l.length=1) (hc:l.length≤c):Spc prog 146 #[.pointer (some ⟨d,0,none⟩), .pointer (some ⟨br,0,none⟩)] [sls p 1 l.length (bytes l)] [rdr d p l.length c,cel br (Rdg.cells (rz 12)) 69]
  (fun _ I' H'=> I'= []∧∃x,H'= [x,cel br (Rdg.cells (getR 12 l)) 69]):=by
 have hl0:=Lies.refl (sls p 1 l.length (bytes l))
 refine Spc.en func146 rfl rfl (fun w0 hw0=> ?_)
 refine CW.sr (RL.q rfl (RL.fa fa_69_0 rfl (RL.lq isAgg3 rfl ?_)))
 refine RL.ns (CW.bs (CW.bs (CW.bs (CW.bs (CW.bs (CW.bs ?_))))))
 refine CW.bs (CW.bs (CW.bs (CW.bs (CW.bs (CW.bs (CW.bs ?_))))))
 refine CW.ss (CW.s1 rfl (CW.cF rfl (rfl) (CW.sn (CW.ss (CW.sr (RL.p rfl ?_))))))
 refine RL.pn rfl (CW.ok [0,1,7,10] rfl (CW.cF rfl (rfl) (CW.sn (CW.ss (CW.s1 rfl ?_)))))
 refine CW.cF rfl (rfl) (CW.sn (CW.ss (CW.s1 rfl (CW.cF rfl (rfl) (CW.sn (CW.ss ?_))))))
 refine CW.s1 rfl (CW.ok [0,1,7,16] rfl (CW.cF rfl (rfl) (CW.sn (CW.ss (CW.sr (RL.p rfl ?_))))))
 refine RL.pn rfl (CW.cF rfl (rfl) (CW.sn (CW.ss (CW.s1 rfl (CW.cF rfl (rfl) ?_)))))
 refine CW.sn (CW.ss (CW.s1 rfl (CW.ok [0,1,7,22] rfl (CW.cF rfl (rfl) (CW.sn (CW.ss ?_))))))
 refine CW.s1 rfl (CW.cT rfl (rfl) (CW.xx (XQ.ss (XQ.ss (XQ.mm rfl (XQ.ss (XQ.mm rfl (XQ.ss ?_))))))))
 refine XQ.mm rfl (XQ.ss (XQ.mm rfl (XQ.ss (XQ.mm rfl (XQ.ss (XQ.mm rfl (XQ.ss (XQ.mm rfl (XQ.ss (XQ.mm rfl (XQ.ss (XQ.hh (NQ.ss ?_)))))))))))))
 refine CW.sg [2,6] [2,6] (RL.q rfl (RL.cc (rnum_any d p 1 c l zb hc zc) call173 rfl pE (Lend.sub hl0 mQ .nil) (.inr rfl) ?_))
 rintro _ _ _ ⟨rfl,rfl,q1,k1,rfl,hc1,hk1⟩
 have hl1:=hl0.trans hk1
 refine RL.lowest runUnderlying32 runUnderlying5 rfl (RL.p rfl (RL.fa fa_69_16 rfl (RL.store (vs:= [_]) sizeOf5 rfl rfl uE ?_)))
 refine RL.ns (CW.ok [0,1] rfl (CW.xx (XQ.mm rfl (XQ.ss (XQ.mm rfl (XQ.ss (XQ.mm rfl (XQ.ss (XQ.hh ?_)))))))))
 refine NQ.post (res0 rfl) (.keep (.keep .nil)) ⟨rfl,_,congrArg (fun z=> [_,cel br z _]) ?_⟩
 simp only [f32,f64,List.drop_drop,Nat.reduceMul,Nat.reduceAdd,u32_nat,u32_nat0,u16_nat,bat_nat0 l zb,ofInt_nat8,ofNat_nat8]
 rfl
theorem rget_13 (d br:Nat) (p:Option Addr) (c:Nat) (l:List B8) (hl:l.length=37) (hc:l.length≤c):Spc prog 146 #[.pointer (some ⟨d,0,none⟩), .pointer (some ⟨br,0,none⟩)] [sls p 1 l.length (bytes l)] [rdr d p l.length c,cel br (Rdg.cells (rz 13)) 69]
  (fun _ I' H'=> I'= []∧∃x,H'= [x,cel br (Rdg.cells (getR 13 l)) 69]):=by
 have hl0:=Lies.refl (sls p 1 l.length (bytes l))
 refine Spc.en func146 rfl rfl (fun w0 hw0=> ?_)
 refine CW.sr (RL.q rfl (RL.fa fa_69_0 rfl (RL.lq isAgg3 rfl ?_)))
 refine RL.ns (CW.bs (CW.bs (CW.bs (CW.bs (CW.bs (CW.bs ?_))))))
 refine CW.bs (CW.bs (CW.bs (CW.bs (CW.bs (CW.bs (CW.bs ?_))))))
 refine CW.ss (CW.s1 rfl (CW.cF rfl (rfl) (CW.sn (CW.ss (CW.sr (RL.p rfl ?_))))))
 refine RL.pn rfl (CW.ok [0,1,7,10] rfl (CW.cF rfl (rfl) (CW.sn (CW.ss (CW.s1 rfl ?_)))))
 refine CW.cF rfl (rfl) (CW.sn (CW.ss (CW.s1 rfl (CW.cF rfl (rfl) (CW.sn (CW.ss ?_))))))
 refine CW.s1 rfl (CW.ok [0,1,7,16] rfl (CW.cF rfl (rfl) (CW.sn (CW.ss (CW.sr (RL.p rfl ?_))))))
 refine RL.pn rfl (CW.cF rfl (rfl) (CW.sn (CW.ss (CW.s1 rfl (CW.cF rfl (rfl) ?_)))))
 refine CW.sn (CW.ss (CW.s1 rfl (CW.ok [0,1,7,22] rfl (CW.cF rfl (rfl) (CW.sn (CW.ss ?_))))))
 refine CW.s1 rfl (CW.cF rfl (rfl) (CW.sn (CW.ss (CW.sr (RL.q rfl ?_)))))
 refine RL.ns (CW.cT rfl (rfl) (CW.xx (XQ.ss (XQ.ss (XQ.mm rfl (XQ.ss (XQ.mm rfl (XQ.ss (XQ.mm rfl (XQ.ss (XQ.mm rfl (XQ.ss ?_))))))))))))
 refine XQ.mm rfl (XQ.ss (XQ.mm rfl (XQ.ss (XQ.mm rfl (XQ.ss (XQ.mm rfl (XQ.ss (XQ.mm rfl (XQ.ss (XQ.hh (NQ.ss (CW.ok [0,1] rfl (CW.ss ?_)))))))))))))
 refine CW.sg [2,6] [2,6] (RL.q rfl (RL.cc (rnum_any d p 1 c l zb hc zc) call173 rfl pE (Lend.sub hl0 mQ .nil) (.inr rfl) ?_))
 rintro _ _ _ ⟨rfl,rfl,q1,k1,rfl,hc1,hk1⟩
 have hl1:=hl0.trans hk1
 refine RL.lowest runUnderlying32 runUnderlying5 rfl (RL.p rfl (RL.fa fa_69_12 rfl (RL.store (vs:= [_]) sizeOf5 rfl rfl uE ?_)))
 refine RL.ns (CW.ok [0,1] rfl (CW.sg [2,5] [2,5] (RL.q rfl (RL.cc (rvec_any d q1 k1 (l.drop 1) (by rw [List.length_drop];omega) hc1) call175 rfl pE (Lend.sub hl1 mQ .nil) (.inr rfl) ?_))))
 rintro _ _ _ ⟨rfl,rfl,q2,k2,rfl,hc2,hk2⟩
 rw [List.drop_drop] at hc2 hk2 ⊢
 rw [show 8*3=24 from rfl] at hc2 hk2 ⊢
 rw [show 1+24=25 from rfl] at hc2 hk2 ⊢
 have hl2:=hl1.trans hk2
 refine RL.p rfl (RL.fa fa_69_9 rfl (RL.sX (cs':=spl _ (0+13) [f64 (l.drop 1) 0,f64 (l.drop 1) 1,f64 (l.drop 1) 2]) (vs:= [f64 (l.drop 1) 0,f64 (l.drop 1) 1,f64 (l.drop 1) 2]) rfl sizeOf27 rfl rfl uE (Nat.le_of_ble_eq_true rfl) ?_))
 refine RL.ns (CW.sg [2,5] [2,5] (RL.q rfl (RL.cc (rfix_any d q2 k2 (l.drop 25) (by rw [List.length_drop];omega) hc2) call172 rfl pE (Lend.sub hl2 mQ .nil) (.inr rfl) ?_)))
 rintro _ _ _ ⟨rfl,rfl,q3,k3,rfl,hc3,hk3⟩
 rw [List.drop_drop] at hc3 hk3 ⊢
 rw [show 25+8=33 from rfl] at hc3 hk3 ⊢
 have hl3:=hl2.trans hk3
 refine RL.p rfl (RL.fa fa_69_14 rfl (RL.store (vs:= [_]) sizeOf25 rfl rfl uE ?_))
 refine RL.ns (CW.ok [0,1] rfl (CW.rn (ef:= [2,6]) (bk:= [2,6]) (RL.q rfl (RL.cc (rnum_any d q3 4 k3 (l.drop 33) (by rw [List.length_drop];omega) hc3 zc) call173 rfl pE (Lend.sub hl3 mQ .nil) (.inr rfl) ?_))))
 rintro _ _ _ ⟨rfl,rfl,q4,k4,rfl,hc4,hk4⟩
 rw [List.drop_drop] at hc4 hk4 ⊢
 rw [show 33+4=37 from rfl] at hc4 hk4 ⊢
 have hl4:=hl3.trans hk4
 refine RL.conv runUnderlying32 runUnderlying61 rfl (RL.p rfl (RL.fa fa_69_15 rfl (RL.store (vs:= [_]) sizeOf61 rfl rfl uE ?_)))
 refine RL.ns (CW.ok [0,1] rfl (CW.xx (XQ.mm rfl (XQ.ss (XQ.mm rfl (XQ.ss (XQ.hh ?_)))))))
 refine NQ.post (res0 rfl) (.keep (.keep .nil)) ⟨rfl,_,congrArg (fun z=> [_,cel br z _]) ?_⟩
 simp only [f32,f64,List.drop_drop,Nat.reduceMul,Nat.reduceAdd,u32_nat,u32_nat0,u16_nat,bat_nat0 l zb,ofInt_nat8,ofNat_nat8]
 rfl
theorem rget_14 (d br:Nat) (p:Option Addr) (c:Nat) (l:List B8) (hl:l.length=16) (hc:l.length≤c):Spc prog 146 #[.pointer (some ⟨d,0,none⟩), .pointer (some ⟨br,0,none⟩)] [sls p 1 l.length (bytes l)] [rdr d p l.length c,cel br (Rdg.cells (rz 14)) 69]
  (fun _ I' H'=> I'= []∧∃x,H'= [x,cel br (Rdg.cells (getR 14 l)) 69]):=by
 have hl0:=Lies.refl (sls p 1 l.length (bytes l))
 refine Spc.en func146 rfl rfl (fun w0 hw0=> ?_)
 refine CW.sr (RL.q rfl (RL.fa fa_69_0 rfl (RL.lq isAgg3 rfl ?_)))
 refine RL.ns (CW.bs (CW.bs (CW.bs (CW.bs (CW.bs (CW.bs ?_))))))
 refine CW.bs (CW.bs (CW.bs (CW.bs (CW.bs (CW.bs (CW.bs ?_))))))
 refine CW.ss (CW.s1 rfl (CW.cF rfl (rfl) (CW.sn (CW.ss (CW.sr (RL.p rfl ?_))))))
 refine RL.pn rfl (CW.ok [0,1,7,10] rfl (CW.cF rfl (rfl) (CW.sn (CW.ss (CW.s1 rfl ?_)))))
 refine CW.cF rfl (rfl) (CW.sn (CW.ss (CW.s1 rfl (CW.cF rfl (rfl) (CW.sn (CW.ss ?_))))))
 refine CW.s1 rfl (CW.ok [0,1,7,16] rfl (CW.cF rfl (rfl) (CW.sn (CW.ss (CW.sr (RL.p rfl ?_))))))
 refine RL.pn rfl (CW.cF rfl (rfl) (CW.sn (CW.ss (CW.s1 rfl (CW.cF rfl (rfl) ?_)))))
 refine CW.sn (CW.ss (CW.s1 rfl (CW.ok [0,1,7,22] rfl (CW.cF rfl (rfl) (CW.sn (CW.ss ?_))))))
 refine CW.s1 rfl (CW.cF rfl (rfl) (CW.sn (CW.ss (CW.sr (RL.q rfl ?_)))))
 refine RL.ns (CW.cF rfl (rfl) (CW.sn (CW.ss (CW.s1 rfl (CW.ok [0,1,7,28] rfl (CW.cT rfl (rfl) ?_))))))
 refine CW.xx (XQ.ss (XQ.ss (XQ.mm rfl (XQ.ss (XQ.mm rfl (XQ.ss (XQ.mm rfl (XQ.ss (XQ.mm rfl (XQ.ss (XQ.mm rfl (XQ.ss (XQ.mm rfl ?_)))))))))))))
 refine XQ.ss (XQ.mm rfl (XQ.ss (XQ.mm rfl (XQ.ss (XQ.mm rfl (XQ.ss (XQ.mm rfl (XQ.ss (XQ.hh (NQ.ss (CW.sg [2,6] [2,6] (RL.p rfl ?_))))))))))))
 refine RL.p rfl (RL.cc (rnum_any d p 1 c l zb hc zc) call173 rfl pE (Lend.sub hl0 mQ .nil) (.inr rfl) ?_)
 rintro _ _ _ ⟨rfl,rfl,q1,k1,rfl,hc1,hk1⟩
 have hl1:=hl0.trans hk1
 refine RL.lowest runUnderlying32 runUnderlying5 rfl (RL.p rfl (RL.fa fa_69_16 rfl (RL.store (vs:= [_]) sizeOf5 rfl rfl uE ?_)))
 refine RL.ns (CW.ok [0,1] rfl (CW.sg [2,6] [2,6] (RL.q rfl (RL.cc (rnum_any d q1 1 k1 (l.drop 1) (by rw [List.length_drop];omega) hc1 zc) call173 rfl pE (Lend.sub hl1 mQ .nil) (.inr rfl) ?_))))
 rintro _ _ _ ⟨rfl,rfl,q2,k2,rfl,hc2,hk2⟩
 rw [List.drop_drop] at hc2 hk2 ⊢
 rw [show 1+1=2 from rfl] at hc2 hk2 ⊢
 have hl2:=hl1.trans hk2
 refine RL.lowest runUnderlying32 runUnderlying5 rfl (RL.p rfl (RL.fa fa_69_17 rfl (RL.store (vs:= [_]) sizeOf5 rfl rfl uE ?_)))
 refine RL.ns (CW.ok [0,1] rfl (CW.sg [2,6] [2,6] (RL.q rfl (RL.cc (rnum_any d q2 2 k2 (l.drop 2) (by rw [List.length_drop];omega) hc2 zc) call173 rfl pE (Lend.sub hl2 mQ .nil) (.inr rfl) ?_))))
 rintro _ _ _ ⟨rfl,rfl,q3,k3,rfl,hc3,hk3⟩
 rw [List.drop_drop] at hc3 hk3 ⊢
 rw [show 2+2=4 from rfl] at hc3 hk3 ⊢
 have hl3:=hl2.trans hk3
 refine RL.conv runUnderlying32 runUnderlying67 rfl (RL.p rfl (RL.fa fa_69_18 rfl (RL.store (vs:= [_]) sizeOf67 rfl rfl uE ?_)))
 refine RL.ns (CW.ok [0,1] rfl (CW.rn (ef:= [2,5]) (bk:= [2,5]) (RL.q rfl (RL.cc (rnum_any d q3 8 k3 (l.drop 4) (by rw [List.length_drop];omega) hc3 zc) call173 rfl pE (Lend.sub hl3 mQ .nil) (.inr rfl) ?_))))
 rintro _ _ _ ⟨rfl,rfl,q4,k4,rfl,hc4,hk4⟩
 rw [List.drop_drop] at hc4 hk4 ⊢
 rw [show 4+8=12 from rfl] at hc4 hk4 ⊢
 have hl4:=hl3.trans hk4
 refine RL.p rfl (RL.fa fa_69_19 rfl (RL.store (vs:= [_]) sizeOf32 rfl rfl uE ?_))
 refine RL.ee (NQ.bb (NQ.ss (CW.sg [2,6] [2,6] (RL.q rfl (RL.cc (rnum_any d q4 4 k4 (l.drop 12) (by rw [List.length_drop];omega) hc4 zc) call173 rfl pE (Lend.sub hl4 mQ .nil) (.inr rfl) ?_)))))
 rintro _ _ _ ⟨rfl,rfl,q5,k5,rfl,hc5,hk5⟩
 rw [List.drop_drop] at hc5 hk5 ⊢
 rw [show 12+4=16 from rfl] at hc5 hk5 ⊢
 have hl5:=hl4.trans hk5
 refine RL.conv runUnderlying32 runUnderlying61 rfl (RL.p rfl (RL.fa fa_69_13 rfl (RL.store (vs:= [_]) sizeOf61 rfl rfl uE ?_)))
 refine RL.ns (CW.ok [] rfl (CW.xx (XQ.hh ?_)))
 refine NQ.post (res0 rfl) (.keep (.keep .nil)) ⟨rfl,_,congrArg (fun z=> [_,cel br z _]) ?_⟩
 simp only [f32,f64,List.drop_drop,Nat.reduceMul,Nat.reduceAdd,u32_nat,u32_nat0,u16_nat,bat_nat0 l zb,bat_nat l 1 zb,ofInt_nat8,ofNat_nat8]
 rfl
end Go.Proofs.YtkineolcmdecjaaGreat
namespace Go.Proofs.YtkineolcmdecjaaGreat
open Go.PK
open Tryz
def sizeV (k:Int):Value:=if 1≤k∧k≤14 then .tuple #[.int .i64 (sizeR k:Int), .int .i64 0] else .tuple #[.int .i64 0, .int .i64 120]
theorem size_at {n:Nat} (h:1≤n∧n≤14) {tab:List Value} {o:Nat} (ht:∀j,j < 14→tab[o+j*1]? =some (.int .i64 (sizeR ((j:Int)+1)))):tab[o+(n - 1)*1]? =some (.int .i64 (sizeR (n:Int))):=by
 have:=ht (n - 1) zb
 rwa [show ((n - 1:Nat):Int)+1=n by omega] at this
theorem tab14 {p:Nat→Prop} (h0:p 0) (h1:p 1) (h2:p 2) (h3:p 3) (h4:p 4) (h5:p 5) (h6:p 6) (h7:p 7) (h8:p 8) (h9:p 9) (h10:p 10) (h11:p 11) (h12:p 12) (h13:p 13):∀j,j < 14→p j
 | 0,_=> h0
 | 1,_=> h1
 | 2,_=> h2
 | 3,_=> h3
 | 4,_=> h4
 | 5,_=> h5
 | 6,_=> h6
 | 7,_=> h7
 | 8,_=> h8
 | 9,_=> h9
 | 10,_=> h10
 | 11,_=> h11
 | 12,_=> h12
 | 13,_=> h13
 | _+14,h=> by omega
theorem size_any (k:Int):Spc prog 106 #[.int .i64 k] [] [] (Is (sizeV k)):=by
 refine Spc.en func106 rfl rfl (fun w0 hw0=> ?_)
 refine CW.s1 rfl (CW.sg [1,2] [2] (RL.buildA [_,_,_,_,_,_,_,_,_,_,_,_,_,_,_] zeroValue275 runUnderlying275 sizeOf3 rfl (RL.al zeroValue275 rfl ?_)))
 intro b1
 refine RL.sq sizeOf275 rfl ?_
 refine RL.ns (CW.ss (CW.sr (RL.q rfl (RL.p rfl ?_))))
 refine RL.part (d:=8) rfl (fun h1=> ?_) (fun h1=> ?_)
 ·
  refine RL.p rfl (RL.qn rfl (CW.ok [0,2,3,4,11] rfl (CW.cT rfl rfl (CW.s1 rfl (CW.rr ?_)))))
  refine RQ.ss ?_
  have h1:k < 1:=by simpa using h1
  exact RQ.pp (res2 rfl rfl rfl) (Split.nn _) ⟨by rw [sizeV,if_neg zb],rfl,rfl⟩
 ·
  refine RL.p rfl (RL.qn rfl (CW.ok [0,2,3,4,11] rfl ?_))
  have h1: ¬k < 1:=by simpa using h1
  refine CW.cd rfl (fun h2=> ?_) (fun h2=> ?_)
  ·
   refine CW.s1 rfl (CW.rr (RQ.ss ?_))
   have h2:14 < k:=by simpa using h2
   exact RQ.pp (res2 rfl rfl rfl) (Split.nn _) ⟨by rw [sizeV,if_neg zb],rfl,rfl⟩
  ·
   refine CW.sn (CW.sr (RL.p rfl ?_))
   have h2: ¬14 < k:=by simpa using h2
   obtain ⟨m,rfl⟩:∃m:Nat,k=(m:Int):=⟨k.toNat,zb⟩
   have hm:1≤m∧m≤14:=by omega
   have hv:=size_at hm (o:=1) (tab:=(.int .i64 0):: [.int .i64 24, .int .i64 8, .int .i64 4, .int .i64 8, .int .i64 29, .int .i64 36, .int .i64 8, .int .i64 1, .int .i64 0, .int .i64 4, .int .i64 0, .int .i64 1, .int .i64 37, .int .i64 16]) (tab14 rfl rfl rfl rfl rfl rfl rfl rfl rfl rfl rfl rfl rfl rfl)
   rw [show 1+(m - 1)*1=0+m*1 by omega] at hv
   refine RL.iA (j:=m) runUnderlying275 sizeOf3 rfl zb ?_
   refine RL.lq isAgg3 rfl ?_
   refine RL.qn rfl (CW.ok [2,3] rfl (CW.rr ?_))
   exact RQ.pp (res2 rfl rfl rfl) (Split.nn _) ⟨by rw [sizeV,if_pos zb],rfl,rfl⟩
theorem rsize_any (k:Int):Spc prog 132 #[.int .i64 k] [] [] (Is (sizeV k)):=by
 refine Spc.en func132 rfl rfl (fun w0 hw0=> ?_)
 refine CW.s1 rfl (CW.sg [0] [] (RL.buildSlice [_,_,_,_,_,_,_,_,_,_,_,_,_,_] runUnderlying52 sizeOf3 zeroValue3 rfl rfl zc zc rfl rfl ?_))
 intro b1
 refine RL.pn rfl (CW.ss (CW.sr (RL.q rfl (RL.p rfl ?_))))
 refine RL.part (d:=8) rfl (fun h1=> ?_) (fun h1=> ?_)
 ·
  refine RL.p rfl (RL.qn rfl (CW.ok [0,2,3,4,11] rfl (CW.cT rfl rfl (CW.s1 rfl (CW.rr ?_)))))
  refine RQ.ss ?_
  have h1:k < 1:=by simpa using h1
  exact RQ.pp (res2 rfl rfl rfl) (Split.nn _) ⟨by rw [sizeV,if_neg zb],rfl,rfl⟩
 ·
  refine RL.p rfl (RL.qn rfl (CW.ok [0,2,3,4,11] rfl ?_))
  have h1: ¬k < 1:=by simpa using h1
  refine CW.cd rfl (fun h2=> ?_) (fun h2=> ?_)
  ·
   refine CW.s1 rfl (CW.rr (RQ.ss ?_))
   have h2:14 < k:=by simpa using h2
   exact RQ.pp (res2 rfl rfl rfl) (Split.nn _) ⟨by rw [sizeV,if_neg zb],rfl,rfl⟩
  ·
   have h2: ¬14 < k:=by simpa using h2
   obtain ⟨m,rfl⟩:∃m:Nat,k=(m:Int):=⟨k.toNat,zb⟩
   have hm:1≤m∧m≤14:=by omega
   have hv:=size_at hm (o:=0) (tab:= [.int .i64 24, .int .i64 8, .int .i64 4, .int .i64 8, .int .i64 29, .int .i64 36, .int .i64 8, .int .i64 1, .int .i64 0, .int .i64 4, .int .i64 0, .int .i64 1, .int .i64 37, .int .i64 16]) (tab14 rfl rfl rfl rfl rfl rfl rfl rfl rfl rfl rfl rfl rfl rfl)
   rw [show 0+(m - 1)*1=(m - 1)*1 by omega] at hv
   refine CW.sn (CW.sr (RL.q rfl (RL.bx rfl (wrapV_i64 zb zb) ?_)))
   refine RL.idx (j:=m - 1) runUnderlying52 sizeOf3 rfl zb zb ?_
   refine RL.load isAgg3 rfl ((Rds.all mQ).rd hv) ?_
   refine RL.qn rfl (CW.ok [2,3] rfl (CW.rr ?_))
   exact RQ.pp (res2 rfl rfl rfl) (Split.nn _) ⟨by rw [sizeV,if_pos zb],rfl,rfl⟩
end Go.Proofs.YtkineolcmdecjaaGreat
namespace Go.Proofs.YtkineolcmdecjaaGreat
open Go.PK
open Tryz
def gotR (k:Int) (l:List B8):Option Rdg:=if 1≤k∧k≤14∧l.length=sizeR k∧(getR k l).mode.toNat≤2∧¬(k=10∧(getR k l).epoch=0) then some (getR k l) else none
def gotV:Option Rdg→Value
 | some r=> .tuple #[.agg r.cells.toArray, .int .i64 0]
 | none=> .tuple #[.agg (rz 0).cells.toArray, .int .i64 120]
theorem rget_all (k:Nat) (hk:1≤k∧k≤14) (d br:Nat) (p:Option Addr) (c n:Nat) (l:List B8) (hn:l.length=n) (hl:n=sizeR k) (hc:n≤c):Spc prog 146 #[.pointer (some ⟨d,0,none⟩), .pointer (some ⟨br,0,none⟩)] [sls p 1 n (bytes l)] [rdr d p n c,cel br (Rdg.cells (rz k)) 69]
  (fun _ I' H'=> I'= []∧∃x,H'= [x,cel br (Rdg.cells (getR k l)) 69]):=by
 subst hn
 match k,hk,hl with
 | 1,_,hl=> exact rget_1 d br p c l hl hc
 | 2,_,hl=> exact rget_2 d br p c l hl hc
 | 3,_,hl=> exact rget_3 d br p c l hl hc
 | 4,_,hl=> exact rget_4 d br p c l hl hc
 | 5,_,hl=> exact rget_5 d br p c l hl hc
 | 6,_,hl=> exact rget_6 d br p c l hl hc
 | 7,_,hl=> exact rget_7 d br p c l hl hc
 | 8,_,hl=> exact rget_8 d br p c l hl hc
 | 9,_,hl=> exact rget_9 d br p c l hl hc
 | 10,_,hl=> exact rget_10 d br p c l hl hc
 | 11,_,hl=> exact rget_11 d br p c l hl hc
 | 12,_,hl=> exact rget_12 d br p c l hl hc
 | 13,_,hl=> exact rget_13 d br p c l hl hc
 | 14,_,hl=> exact rget_14 d br p c l hl hc
 | _+15,h,_=> omega
 | 0,h,_=> omega
theorem sizeR_le:∀m:Nat,1≤m∧m≤14→sizeR (m:Int)≤37
 | 1,_=> by decide
 | 2,_=> by decide
 | 3,_=> by decide
 | 4,_=> by decide
 | 5,_=> by decide
 | 6,_=> by decide
 | 7,_=> by decide
 | 8,_=> by decide
 | 9,_=> by decide
 | 10,_=> by decide
 | 11,_=> by decide
 | 12,_=> by decide
 | 13,_=> by decide
 | 14,_=> by decide
 | 0,h=> by omega
 | _+15,h=> by omega
theorem get_all (k:Int) (p:Option Addr) (n c:Nat) (l:List B8) (hn:l.length=n) (hc:n≤c):Spc prog 108 #[.int .i64 k, .slice p n c] [sls p 1 n (bytes l)] [] (Is (gotV (gotR k l))):=by
 by_cases hk:1≤k∧k≤14
 ·have hs:sizeV k= .tuple #[.int .i64 (sizeR k:Int), .int .i64 0]:=by rw [sizeV,if_pos hk]
  refine Spc.en func108 rfl rfl (fun w0 hw0=> ?_)
  refine CW.sg [0] [] (RL.al zeroValue69 rfl ?_)
  intro b1
  refine RL.pn rfl (CW.sr (RL.p rfl (RL.vq (size_any k) call106 rfl ?_)))
  refine RL.p rfl ?_
  rw [hs]
  refine RL.q rfl (RL.qn rfl (CW.ok [0,1,4,6,7] rfl (CW.ss (CW.sr (RL.q rfl (RL.p rfl (RL.tt (d:=17) (v':= .bool false) rfl (rfl) ?_)))))))
  refine RL.q rfl (RL.lenS runUnderlying74 rfl (RL.qn rfl (CW.ok [0,1,4,22] rfl ?_)))
  refine CW.cd rfl (fun hne=> ?_) (fun hne=> ?_)
  ·
   refine CW.sg [1] [1] (RL.bS _ zeroValue69 pl_69 rfl (RL.sq sizeOf69 rfl ?_))
   refine RL.pn rfl (CW.rr (RQ.ss ?_))
   have hne: ¬l.length=sizeR k:=by intro e;simp [←hn,e] at hne
   exact RQ.pp (resWT rfl rfl rfl isAgg69 sizeOf69 mQ rfl) (Split.nn _) ⟨by rw [gotR,if_neg zb];rfl,rfl,rfl⟩
  ·
   have hl:l.length=sizeR k:=by simp [←hn] at hne;omega
   obtain ⟨m,rfl⟩:∃m:Nat,k=(m:Int):=⟨k.toNat,zb⟩
   refine CW.sn (CW.sg [2,3] [3] (RL.p rfl (RL.bS (Rdg.cells (rz m)) zeroValue69 pl_69 rfl (RL.al zeroValue69 rfl ?_))))
   intro b2
   refine RL.sq sizeOf69 rfl ?_
   refine RL.ns (CW.sg [1,3] [] (RL.p rfl (RL.cq (clone_any p n c l hn (by have:=sizeR_le m zb;omega)) call93 rfl (.inl rfl) ?_)))
   rintro _ _ _ ⟨ob,cb,rfl,rfl,rfl,ho⟩
   refine RL.bS [_] zeroValue282 pl_282 rfl (RL.box rfl ?_)
   intro b3
   refine RL.pn rfl (CW.ok [0,4,8,9] rfl (CW.ss ?_))
   refine CW.ff (p:=l.length≤cb) (fun w hC=> own_cap (hC.s.h (own ob cb 5 1 l.length (bytes l)) mQ)) (fun hcb=> ?_)
   refine CW.tell (xs:=bytes l) pE (fun _=> ?_)
   refine CW.rn (ef:= [1]) (bk:= [1]) (RL.p rfl (RL.cc (rget_all m zb b3 b2 (ob.map fun b=> ⟨b,0,none⟩) cb l.length l rfl hl hcb) call146 rfl pE (.inI (List.Mem.head _) .nil) (.inr rfl) ?_))
   rintro _ _ _ ⟨rfl,x,rfl⟩
   refine RL.ns (CW.ss (CW.sr (RL.fa fa_69_12 rfl (RL.lq isAgg5 rfl ?_))))
   refine RL.q rfl ?_
   refine RL.part (d:=35) rfl (fun h1=> ?_) (fun h1=> ?_)
   ·
    refine RL.q rfl (RL.q rfl (RL.q rfl (RL.qn rfl (CW.ok [4,8,43] rfl (CW.cT rfl rfl (CW.sg [1] [1] ?_))))))
    refine RL.bS _ zeroValue69 pl_69 rfl (RL.sq sizeOf69 rfl ?_)
    refine RL.pn rfl (CW.rr (RQ.ss ?_))
    have h1:2 < (getR m l).mode.toNat:=by simp at h1;omega
    exact RQ.pp (resWT rfl rfl rfl isAgg69 sizeOf69 mQ rfl) (Split.nn _) ⟨by rw [gotR,if_neg zb];rfl,rfl,rfl⟩
   ·
    refine RL.q rfl (RL.p rfl ?_)
    have h1: ¬2 < (getR m l).mode.toNat:=by simp at h1;omega
    refine RL.part (d:=38) rfl (fun h2=> ?_) (fun h2=> ?_)
    ·
     refine RL.fa fa_69_13 rfl (RL.lq isAgg61 rfl ?_)
     refine RL.p rfl (RL.qn rfl (CW.ok [4,8,43] rfl ?_))
     have h2:(m:Int)=10:=by simpa using h2
     refine CW.cd rfl (fun h3=> ?_) (fun h3=> ?_)
     ·
      refine CW.sg [1] [1] (RL.bS _ zeroValue69 pl_69 rfl (RL.sq sizeOf69 rfl ?_))
      refine RL.pn rfl (CW.rr (RQ.ss ?_))
      have h3:(getR m l).epoch=0:=by simpa using h3
      exact RQ.pp (resWT rfl rfl rfl isAgg69 sizeOf69 mQ rfl) (Split.nn _) ⟨by rw [gotR,if_neg zb];rfl,rfl,rfl⟩
     ·
      refine CW.sn (CW.sg [1] [1] (RL.lW isAgg69 sizeOf69 rfl mQ zf ?_))
      refine RL.sq sizeOf69 rfl ?_
      refine RL.pn rfl (CW.rr ?_)
      have h3: ¬(getR m l).epoch=0:=by simpa using h3
      exact RQ.pp (resWT rfl rfl rfl isAgg69 sizeOf69 mQ rfl) (Split.nn _) ⟨by rw [gotR,if_pos zb];rfl,rfl,rfl⟩
    ·
     refine RL.q rfl (RL.p rfl (RL.qn rfl (CW.ok [4,8,43] rfl (CW.cF rfl rfl (CW.sn (CW.sg [1] [1] (RL.lW isAgg69 sizeOf69 rfl mQ zf ?_)))))))
     refine RL.sq sizeOf69 rfl ?_
     refine RL.pn rfl (CW.rr ?_)
     have h2: ¬(m:Int)=10:=by simpa using h2
     exact RQ.pp (resWT rfl rfl rfl isAgg69 sizeOf69 mQ rfl) (Split.nn _) ⟨by rw [gotR,if_pos zb];rfl,rfl,rfl⟩
 ·have hs:sizeV k= .tuple #[.int .i64 0, .int .i64 120]:=by rw [sizeV,if_neg hk]
  refine Spc.en func108 rfl rfl (fun w0 hw0=> ?_)
  refine CW.sg [0] [] (RL.al zeroValue69 rfl ?_)
  intro b1
  refine RL.pn rfl (CW.sr (RL.p rfl (RL.vq (size_any k) call106 rfl ?_)))
  refine RL.p rfl ?_
  rw [hs]
  refine RL.q rfl (RL.qn rfl (CW.ok [0,1,4,6,7] rfl (CW.ss (CW.sr (RL.q rfl (RL.p rfl (RL.tt (d:=17) (v':= .bool true) rfl (rfl) ?_)))))))
  refine RL.q rfl (RL.p rfl (RL.qn rfl (CW.ok [0,1,4,22] rfl (CW.cT rfl rfl (CW.sg [1] [1] (RL.bS _ zeroValue69 pl_69 rfl (RL.sq sizeOf69 rfl ?_)))))))
  refine RL.pn rfl (CW.rr (RQ.ss ?_))
  exact RQ.pp (resWT rfl rfl rfl isAgg69 sizeOf69 mQ rfl) (Split.nn _) ⟨by rw [gotR,if_neg zb];rfl,rfl,rfl⟩
theorem get_any (k:Int) (p:Option Addr) (n c:Nat) (l:List B8) (hn:l.length=n) (hc:n≤c) (_:n≤1000000000):Spc prog 108 #[.int .i64 k, .slice p n c] [sls p 1 n (bytes l)] [] (Is (gotV (gotR k l))):=get_all k p n c l hn hc
end Go.Proofs.YtkineolcmdecjaaGreat
