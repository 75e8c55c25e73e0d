import Derived.Test.YtabjfnfglcghfaaGreatConB
set_option linter.unusedVariables false
set_option linter.unusedSimpArgs false
set_option maxRecDepth 20000
namespace Go.Proofs.YtabjfnfglcghfaaGreat
open Go.Eng Go.Tm
set_option maxHeartbeats 2000000 in
theorem zf7  : FnD Tryz.prog 15 [] [] (.bool true) []:=by
 obtain ⟨b,τ,P,hg,hP,hne,hTr,hrs,⟨n,hpn,hn1,hn2,hw1,hw2⟩,hv,hw9,hok,hr0,hr1⟩:=zry
 have hts:0<t19.size∧t19.size≤20000:=by decide +kernel
 have hhs:h19.size≤2:=zgt
 refine Fn.enter (Tryz.func15) rfl rfl (fun w0 R=>?_)
 refine TC.seq (TC.nilA 0 (A:=fun _=>True) trivial (TC.region (xaf rfl (dA (TL.bld [.int .i64 0,.int .i64 0,.int .i64 0] [(.int _ _),(.int _ _),(.int _ _)] [_,_,_] zu3 zu9 ⟨rfl,rfl,rfl,trivial⟩ ⟨rfl,rfl⟩ rfl rfl (TL.bld [.int .i64 0,.int .i64 0,.int .i64 0,.slice none 0 0,.slice none 0 0] [(.agg _)] [_,_,_,_,_] zu2 zu8 ⟨rfl,trivial⟩ ⟨rfl,rfl⟩ rfl rfl ?_))))))
 refine TL.call [0] [0,1,2] (zns (l:=l19) (da:=none) (dn:=0) (dc:=0) (Ad:=fun _=>True) (bd:=0) (offd:=0) (fd:=fun _=>0) zeQ (fun h=>absurd h (Nat.lt_irrefl 0)) (fun _ _ i hi=>absurd hi (Nat.not_lt_zero i)) (fun i hi=>absurd hi (Nat.not_lt_zero i)) (by decide)) ⟨rfl,trivial⟩ ⟨rfl,trivial⟩ zvh rfl rfl rfl rfl ?_
 rintro x Bs ⟨pb,ab,mb,rfl,rfl⟩
 refine ⟨rfl,trivial,?_⟩
 refine xap rfl (dB (xmp rfl (TL.nilP false rfl rfl zva rfl rfl rfl (dF rfl (xmp rfl (TL.call [1,2] [1,2,3] (zoQ (l:=l19) zeQ) ⟨rfl,rfl,rfl,trivial⟩ ⟨rfl,rfl,trivial⟩ zvd rfl rfl rfl rfl ?_))))))
 rintro r9 Bs rfl
 refine ⟨rfl,trivial,?_⟩
 refine TL.rowS 3 rfl (fun a9 b9 o9 c9 hv9 hc9 ha9=>⟨trivial,?_⟩)
 cases hv9
 rw [show zck l19 (zaq (zaY l19 (zgk l19 0 (fun _=>0) (Array.replicate l19.cells.toNat 0)) 0) (zaY l19 (zgk l19 0 (fun _=>0) (Array.replicate l19.cells.toNat 0)) 1)) [] 1 (zaq (zaY l19 (zgk l19 0 (fun _=>0) (Array.replicate l19.cells.toNat 0)) 0) (zaY l19 (zgk l19 0 (fun _=>0) (Array.replicate l19.cells.toNat 0)) 1)).size (zgk l19 0 (fun _=>0) (Array.replicate l19.cells.toNat 0))=t19 from rfl]
 refine xas rfl (dS (TC.drawT (.br [(0,true),(1,true),(2,true),(3,true),(4,true),(5,true),(6,true),(7,true),(8,true),(9,true)] 10 11 (.fin [(11,false),(12,false)]) (.fin [(10,false),(12,false)])) [1] fc_m (by kernel_rfl) (TT.br (xmp rfl (xN0 rfl (xf 3 zcU rfl (xlp 1 zd8 rfl rfl (xmp rfl (xN0 rfl ?_)))))))))
 refine xf 0 zbX rfl (xL3 1 zaa rfl rfl (TL.bld [.int .i64 0,.int .i64 0] [(.int _ _)] [_,_] zpa zpe ⟨rfl,trivial⟩ ⟨rfl,rfl⟩ rfl rfl (xms rfl (TL.both ?_ ?_))))
 refine TL.openE 2 rfl (fun n0=>⟨(kL1 rfl trivial),?_⟩)
 refine TL.call [2,3] [2,3,4,5] (zhZ (p:=⟨1,0⟩) zeQ ha9 hhs rfl zds hts.1 hts.2 hg hP hne) ⟨rfl,rfl,rfl,rfl,rfl,rfl,rfl,trivial⟩ ⟨rfl,rfl,trivial⟩ zr7 rfl rfl rfl rfl ?_
 rintro r9 Bs ⟨xa,xc,ya,yc,rfl,rfl⟩
 refine ⟨rfl,(kL1 rfl trivial),?_⟩
 refine TL.conseq 2 (B:=zam ab mb 139 29 (t19)) rfl (fun h hh=>zgN hh) (kL1 rfl trivial) (TL.ownW 4 rfl (fun a8 g8 c8 hv8 hc8 ha8=>?_))
 cases hv8
 refine TL.rowS 5 rfl (fun a7 b7 o7 c7 hv7 hc7 ha7=>⟨(kL1 rfl trivial),?_⟩)
 cases hv7
 refine TL.tree (TT.fin (TL.alloc 6 (cs:=#[.slice none 0 0,.int .i64 0,.bool false,.slice none 0 0]) zfA rfl rfl rfl (fun _=>(kL1 rfl trivial)) (fun bk6=>(TL.stW 6 4 [_,_,_,_] rfl rfl rfl rfl rfl rfl zbP rfl rfl (kL1 rfl trivial) (dB (xf 2 zid rfl (xlb 6 zcG rfl rfl ?_)))))))
 rw [hTr]
 refine xnt rfl (xmf rfl (xf 3 zcV rfl (xls 6 zgf rfl rfl (xz zai rfl (TL.neqF rfl rfl (by omega) rfl rfl (xpF rfl (xmf rfl (xf 1 zbu rfl ?_))))))))
 refine xli 6 zah rfl rfl (TL.lssF rfl rfl (by omega) rfl rfl (xpF rfl (xmf rfl (xf 1 zbu rfl (xli 6 zah rfl rfl (xf 0 za8 rfl (xls 6 zbM rfl rfl (xz zae rfl ?_))))))))
 refine TL.geqF rfl rfl (by omega) rfl rfl (xpF rfl (xmf rfl (xf 0 za8 rfl (xls 6 zbM rfl rfl (xf 1 zbu rfl (xli 6 zah rfl rfl ?_))))))
 rw [hpn]
 refine TL.iaO rfl ha8 rfl zae (by omega) rfl rfl (xf 0 zaI rfl (TL.ldRF 4 (.bool true) rfl rfl (zaR ha8) (by omega) rfl (congrArg (fun z=>some (Value.bool z)) hw1) zcG rfl rfl (xnt rfl (xpF rfl (xmf rfl (xf 0 za8 rfl (xls 6 zbM rfl rfl (xf 1 zbu rfl ?_))))))))
 refine xli 6 zah rfl rfl ?_
 first | rw [hpn] | skip
 refine TL.iaO rfl ha8 rfl zae (by omega) rfl rfl (xf 1 zaT rfl (TL.ldRF 4 (.int .i64 0) rfl rfl (zaR ha8) (by omega) rfl (congrArg (fun z=>some (Value.int .i64 z)) hw2) zah rfl rfl (TL.cmpF rfl rfl rfl (by decide) rfl rfl (xpF rfl (dF rfl (xf 0 za8 rfl (xls 6 zbM rfl rfl (TL.call [4] [4,7,8] (zhj ha8 (by omega) (zaR ha8)) ⟨rfl,trivial⟩ ⟨rfl,trivial⟩ zpB rfl rfl rfl rfl ?_))))))))
 rintro x Bs ⟨rb,v,rfl,rfl⟩
 refine ⟨rfl,trivial,?_⟩
 rw [ziC]
 refine TL.ownW 8 rfl (fun a6 g6 c6 hv6 hc6 ha6=>?_)
 cases hv6
 refine xap rfl (dB (xmp rfl (TL.nilP false rfl rfl zpf rfl rfl rfl (xmf rfl (xmp rfl (TL.callD [7] [7] zdl ⟨rfl,trivial⟩ ⟨rfl,trivial⟩ zgi rfl rfl rfl rfl rfl trivial ?_))))))
 rw [decide_eq_false (show ¬(0:Int)=(P.work.size:Int) by omega)]
 refine xpF rfl (TL.done (TQ.then (TC.condF rfl (TC.skip (TQ.then (sB (xai rfl (dK ?_))))))))
 refine TC.loopK (X:=Nat) [1,3,4] [0,1,3,4,5,6,8] (fun k=>[(5,.int .i64 ((k:Nat):Int))]) (fun k=>[(7,pt rb (.cells #[.slice a6 P.work.size c6,.int .i64 (((k:Nat):Int)),.bool (badA t19 P.work k)] 145)),(2,zam ab mb 139 29 (runA t19 P.work k))]) (fun k=>k<P.work.size) (fun k=>P.work.size - k) (0) (by omega) ⟨rfl,trivial⟩ ⟨rfl,rfl,trivial⟩ (fun k hI=>(TC.sub (env':=[(5,_),(1,_),(3,_),(4,_)]) (L':=[(7,_),(2,_),(0,_),(1,_),(3,_),(4,_),(5,_),(6,_),(8,_)]) ⟨rfl,rfl,rfl,rfl,trivial⟩ ⟨rfl,rfl,rfl,rfl,rfl,rfl,rfl,rfl,rfl,trivial⟩ (sB (xmp rfl (xmp rfl (xN0 rfl (xf 3 zcU rfl (xlp 1 zd8 rfl rfl ?_))))))))
 refine TL.callD [7,8,2] [7,8,2] (zc2 (by omega) hc6 ha6 hI hv) ⟨rfl,rfl,trivial⟩ ⟨rfl,rfl,rfl,trivial⟩ zea rfl rfl rfl rfl rfl trivial ?_
 rw [show (badA t19 P.work k || !accG P.work[k]! (runA t19 P.work k))=badA t19 P.work (k+1) from rfl,show acc1 P.work[k]! (runA t19 P.work k)=runA t19 P.work (k+1) from rfl]
 refine TL.casesP rfl (fun q1=>?_) (fun q1=>?_)
 refine xnt rfl (dE rfl (TC.seq ?_))
 have hk2:k+1=P.work.size:=by assumption
 rw [hk2]
 have hbd:badA t19 P.work P.work.size=false:=zqh hok (Nat.le_refl _)
 refine TC.draw [(0,true),(1,false),(2,true),(3,true),(5,true),(6,true),(7,true),(4,false),(8,true),(9,true),(10,true),(11,true),(13,true),(12,false),(14,false),(15,true),(16,true),(17,true),(18,true),(20,true),(21,true),(22,true),(23,true),(19,false),(24,true),(25,true),(26,true)] [5,6] fc_m (by kernel_rfl) (xmp rfl (TL.callD [7] [7] zb3 ⟨rfl,trivial⟩ ⟨rfl,trivial⟩ zeq rfl rfl rfl rfl rfl (kL2 rfl rfl trivial) ?_))
 rw [hbd]
 refine xmt rfl (xmp rfl (xf 0 za8 rfl (xls 6 zbM rfl rfl (xz zae rfl (TL.callD [7] [7] zbs ⟨rfl,trivial⟩ ⟨rfl,trivial⟩ zd9 rfl rfl rfl rfl rfl (kL2 rfl rfl trivial) (TL.eqlT rfl rfl rfl rfl rfl (xpT rfl (xmt rfl ?_))))))))
 refine xmp rfl (xmp rfl (TL.callD [1,2] [1,2] (zcB (l:=l19) zeQ) ⟨rfl,rfl,trivial⟩ ⟨rfl,rfl,trivial⟩ zgh rfl rfl rfl rfl rfl (kL2 rfl rfl trivial) (TL.callD [1,2] [1,2] (zcB (l:=l19) zeQ) ⟨rfl,rfl,trivial⟩ ⟨rfl,rfl,trivial⟩ zgh rfl rfl rfl rfl rfl (kL2 rfl rfl trivial) (TL.eqlT rfl rfl (hr0.trans hr1.symm) rfl rfl (xpT rfl (xmt rfl (xmp rfl (xf 3 zcV rfl ?_))))))))
 refine xls 6 zgf rfl rfl (TL.iaO (i:=0) rfl ha7 rfl zai (by omega) rfl rfl (TL.ldRS 5 (.int _ _) rfl rfl zds (by omega) (rfl) zah rfl rfl (TL.callD [1,2] [1,2] (zcB (l:=l19) zeQ) ⟨rfl,rfl,trivial⟩ ⟨rfl,rfl,trivial⟩ zgh rfl rfl rfl rfl rfl (kL2 rfl rfl trivial) (TL.eqlT rfl rfl hr0 rfl rfl (xpT rfl (xat rfl (dR ?_)))))))
 refine FQ.ret1 (v:=(.bool true)) (Bs:=[]) [] rfl rfl rfl trivial ?_
 exact ⟨rfl,rfl⟩
 refine xnf rfl (TL.done (TQ.then (TC.condT rfl (TC.skip (TQ.then (TC.seq (TC.block (sA ?_))))))))
 refine xmi rfl (TL.gtrF rfl rfl (by omega) rfl rfl (TL.done (TQ.then (TC.condF rfl (TC.skip (TQ.inBlock (TQ.then (TC.region ?_))))))))
 refine xmi rfl (TL.add (((k+1:Nat):Int)) rfl rfl (wrN (by omega)) rfl rfl (xai rfl (TL.done (TQ.roundK (k+1) ⟨by omega,by omega⟩ ⟨rfl,trivial⟩ ⟨rfl,rfl,trivial⟩ (kE3 rfl rfl rfl trivial) (kL7 rfl rfl rfl rfl rfl rfl rfl trivial)))))
 refine TL.alloc 9 (cs:=#[.slice none 0 0,.int .i64 0,.bool false,.slice none 0 0]) zfA rfl rfl rfl (fun _=>(kL1 rfl trivial)) (fun bk9=>(TL.tree (TT.fin (TL.openE 2 rfl (fun n0=>⟨(kL1 rfl trivial),?_⟩)))))
 refine TL.call [2,3] [2,3,10,11] (zhZ (p:=⟨1,0⟩) zeQ ha9 hhs rfl zds hts.1 hts.2 hg hP hne) ⟨rfl,rfl,rfl,rfl,rfl,rfl,rfl,trivial⟩ ⟨rfl,rfl,trivial⟩ zr7 rfl rfl rfl rfl ?_
 rintro r9 Bs ⟨xa,xc,ya,yc,rfl,rfl⟩
 refine ⟨rfl,(kL1 rfl trivial),?_⟩
 refine TL.conseq 2 (B:=zam ab mb 139 29 (t19)) rfl (fun h hh=>zgN hh) (kL1 rfl trivial) (TL.ownW 10 rfl (fun a8 g8 c8 hv8 hc8 ha8=>?_))
 cases hv8
 refine TL.rowS 11 rfl (fun a7 b7 o7 c7 hv7 hc7 ha7=>⟨(kL1 rfl trivial),?_⟩)
 cases hv7
 refine TL.stW 9 4 [_,_,_,_] rfl rfl rfl rfl rfl rfl zbP rfl rfl (kL1 rfl trivial) (dB (xf 2 zid rfl (xlb 9 zcG rfl rfl ?_)))
 rw [hTr]
 refine xnt rfl (xmf rfl (xf 3 zcV rfl (xls 9 zgf rfl rfl (xz zai rfl (TL.neqF rfl rfl (by omega) rfl rfl (xpF rfl (xmf rfl (xf 1 zbu rfl ?_))))))))
 refine xli 9 zah rfl rfl (TL.lssF rfl rfl (by omega) rfl rfl (xpF rfl (xmf rfl (xf 1 zbu rfl (xli 9 zah rfl rfl (xf 0 za8 rfl (xls 9 zbM rfl rfl (xz zae rfl ?_))))))))
 refine TL.geqF rfl rfl (by omega) rfl rfl (xpF rfl (xmf rfl (xf 0 za8 rfl (xls 9 zbM rfl rfl (xf 1 zbu rfl (xli 9 zah rfl rfl ?_))))))
 rw [hpn]
 refine TL.iaO rfl ha8 rfl zae (by omega) rfl rfl (xf 0 zaI rfl (TL.ldRF 10 (.bool true) rfl rfl (zaR ha8) (by omega) rfl (congrArg (fun z=>some (Value.bool z)) hw1) zcG rfl rfl (xnt rfl (xpF rfl (xmf rfl (xf 0 za8 rfl (xls 9 zbM rfl rfl (xf 1 zbu rfl ?_))))))))
 refine xli 9 zah rfl rfl ?_
 first | rw [hpn] | skip
 refine TL.iaO rfl ha8 rfl zae (by omega) rfl rfl (xf 1 zaT rfl (TL.ldRF 10 (.int .i64 0) rfl rfl (zaR ha8) (by omega) rfl (congrArg (fun z=>some (Value.int .i64 z)) hw2) zah rfl rfl (TL.cmpF rfl rfl rfl (by decide) rfl rfl (xpF rfl (dF rfl (xf 0 za8 rfl (xls 9 zbM rfl rfl (TL.call [10] [10,12,13] (zhj ha8 (by omega) (zaR ha8)) ⟨rfl,trivial⟩ ⟨rfl,trivial⟩ zpB rfl rfl rfl rfl ?_))))))))
 rintro x Bs ⟨rb,v,rfl,rfl⟩
 refine ⟨rfl,trivial,?_⟩
 rw [ziC]
 refine TL.ownW 13 rfl (fun a6 g6 c6 hv6 hc6 ha6=>?_)
 cases hv6
 refine xap rfl (dB (xmp rfl (TL.nilP false rfl rfl zpf rfl rfl rfl (xmf rfl (xmp rfl (TL.callD [12] [12] zdl ⟨rfl,trivial⟩ ⟨rfl,trivial⟩ zgi rfl rfl rfl rfl rfl trivial ?_))))))
 rw [decide_eq_false (show ¬(0:Int)=(P.work.size:Int) by omega)]
 refine xpF rfl (TL.done (TQ.then (TC.condF rfl (TC.skip (TQ.then (sB (xai rfl (dK ?_))))))))
 refine TC.loopK (X:=Nat) [1,3,4] [0,1,3,9,10,11,13] (fun k=>[(5,.int .i64 ((k:Nat):Int))]) (fun k=>[(12,pt rb (.cells #[.slice a6 P.work.size c6,.int .i64 (((k:Nat):Int)),.bool (badA t19 P.work k)] 145)),(2,zam ab mb 139 29 (runA t19 P.work k))]) (fun k=>k<P.work.size) (fun k=>P.work.size - k) (0) (by omega) ⟨rfl,trivial⟩ ⟨rfl,rfl,trivial⟩ (fun k hI=>(TC.sub (env':=[(5,_),(1,_),(3,_),(4,_)]) (L':=[(12,_),(2,_),(0,_),(1,_),(3,_),(9,_),(10,_),(11,_),(13,_)]) ⟨rfl,rfl,rfl,rfl,trivial⟩ ⟨rfl,rfl,rfl,rfl,rfl,rfl,rfl,rfl,rfl,trivial⟩ (sB (xmp rfl (xmp rfl (xN0 rfl (xf 3 zcU rfl (xlp 1 zd8 rfl rfl ?_))))))))
 refine TL.callD [12,13,2] [12,13,2] (zc2 (by omega) hc6 ha6 hI hv) ⟨rfl,rfl,trivial⟩ ⟨rfl,rfl,rfl,trivial⟩ zea rfl rfl rfl rfl rfl trivial ?_
 rw [show (badA t19 P.work k || !accG P.work[k]! (runA t19 P.work k))=badA t19 P.work (k+1) from rfl,show acc1 P.work[k]! (runA t19 P.work k)=runA t19 P.work (k+1) from rfl]
 refine TL.casesP rfl (fun q1=>?_) (fun q1=>?_)
 refine xnt rfl (dE rfl (TC.seq ?_))
 have hk2:k+1=P.work.size:=by assumption
 rw [hk2]
 have hbd:badA t19 P.work P.work.size=false:=zqh hok (Nat.le_refl _)
 refine TC.draw [(0,true),(1,false),(2,true),(3,true),(5,true),(6,true),(7,true),(4,false),(8,true),(9,true),(10,true),(11,true),(13,true),(12,false),(14,false),(15,true),(16,true),(17,true),(18,true),(20,true),(21,true),(22,true),(23,true),(19,false),(24,true),(25,true),(26,true)] [9,11] fc_m (by kernel_rfl) (xmp rfl (TL.callD [12] [12] zb3 ⟨rfl,trivial⟩ ⟨rfl,trivial⟩ zeq rfl rfl rfl rfl rfl (kL2 rfl rfl trivial) ?_))
 rw [hbd]
 refine xmt rfl (xmp rfl (xf 0 za8 rfl (xls 9 zbM rfl rfl (xz zae rfl (TL.callD [12] [12] zbs ⟨rfl,trivial⟩ ⟨rfl,trivial⟩ zd9 rfl rfl rfl rfl rfl (kL2 rfl rfl trivial) (TL.eqlT rfl rfl rfl rfl rfl (xpT rfl (xmt rfl ?_))))))))
 refine xmp rfl (xmp rfl (TL.callD [1,2] [1,2] (zcB (l:=l19) zeQ) ⟨rfl,rfl,trivial⟩ ⟨rfl,rfl,trivial⟩ zgh rfl rfl rfl rfl rfl (kL2 rfl rfl trivial) (TL.callD [1,2] [1,2] (zcB (l:=l19) zeQ) ⟨rfl,rfl,trivial⟩ ⟨rfl,rfl,trivial⟩ zgh rfl rfl rfl rfl rfl (kL2 rfl rfl trivial) (TL.eqlT rfl rfl (hr0.trans hr1.symm) rfl rfl (xpT rfl (xmt rfl (xmp rfl (xf 3 zcV rfl ?_))))))))
 refine xls 9 zgf rfl rfl (TL.iaO (i:=0) rfl ha7 rfl zai (by omega) rfl rfl (TL.ldRS 11 (.int _ _) rfl rfl zds (by omega) (rfl) zah rfl rfl (TL.callD [1,2] [1,2] (zcB (l:=l19) zeQ) ⟨rfl,rfl,trivial⟩ ⟨rfl,rfl,trivial⟩ zgh rfl rfl rfl rfl rfl (kL2 rfl rfl trivial) (TL.eqlT rfl rfl hr0 rfl rfl (xpT rfl (xat rfl (dR ?_)))))))
 refine FQ.ret1 (v:=(.bool true)) (Bs:=[]) [] rfl rfl rfl trivial ?_
 exact ⟨rfl,rfl⟩
 refine xnf rfl (TL.done (TQ.then (TC.condT rfl (TC.skip (TQ.then (TC.seq (TC.block (sA ?_))))))))
 refine xmi rfl (TL.gtrF rfl rfl (by omega) rfl rfl (TL.done (TQ.then (TC.condF rfl (TC.skip (TQ.inBlock (TQ.then (TC.region ?_))))))))
 refine xmi rfl (TL.add (((k+1:Nat):Int)) rfl rfl (wrN (by omega)) rfl rfl (xai rfl (TL.done (TQ.roundK (k+1) ⟨by omega,by omega⟩ ⟨rfl,trivial⟩ ⟨rfl,rfl,trivial⟩ (kE3 rfl rfl rfl trivial) (kL7 rfl rfl rfl rfl rfl rfl rfl trivial)))))
theorem znW {da wa:Option Addr} {dn dc wn wc:Nat} (hno:¬(dn≤40∧wn≤60)):FnD Tryz.prog 3 [.slice da dn dc,.slice wa wn wc] [] (.bool true) []:=by
 refine Fn.enter (Tryz.func3) rfl rfl (fun w0 R=>?_)
 refine sA (xaf rfl (dB (xms rfl (xz zap rfl (TL.gtr rfl rfl rfl rfl (fun q1=>?_) (fun q1=>?_))))))
 refine xmt rfl (xo rfl (xo rfl (xo rfl (xpT rfl (dT rfl (TL.callD [] [] zf7 trivial trivial zpH rfl rfl rfl rfl rfl trivial (xat rfl (dRR ?_))))))))
 refine FQ.ret1 (v:=(.bool true)) (Bs:=[]) [] rfl rfl rfl trivial ?_
 exact ⟨rfl,rfl⟩
 refine xmf rfl (xms rfl (xz zae rfl (TL.gtr rfl rfl rfl rfl (fun q2=>?_) (fun q2=>?_))))
 refine xpH rfl (dT rfl (TL.callD [] [] zf7 trivial trivial zpH rfl rfl rfl rfl rfl trivial (xat rfl (dRR ?_))))
 refine FQ.ret1 (v:=(.bool true)) (Bs:=[]) [] rfl rfl rfl trivial ?_
 exact ⟨rfl,rfl⟩
 refine xpF rfl (TL.done (TQ.then (TC.condF rfl (TC.skip (TQ.then (TC.seq ?_))))))
 exact absurd (by omega:False) id
set_option maxHeartbeats 4000000 in
theorem znX {da wa:Option Addr} {dn dc bd offd wn wc bw offw:Nat} {Ad:Assn} {fd:Nat→Int} {fw:Nat→Acc} (hda:0<dn→da=some ⟨bd,offd,none⟩) (hAd:zaZ Ad encU 1 bd offd dn fd) (hfd:∀ i,i<dn→0≤fd i∧fd i<18446744073709551616) (hwa:0<wn→wa=some ⟨bw,offw,none⟩) (hAw:zaZ Ad zas 3 bw offw wn fw) (hfw:∀ i,i<wn→0≤(fw i).val∧(fw i).val<18446744073709551616) (hok:dn≤40∧wn≤60):FnD Tryz.prog 3 [.slice da dn dc,.slice wa wn wc] [Ad] (.bool true) [Ad]:=by
 obtain ⟨hdn,hwn⟩:=hok
 obtain ⟨W,hW⟩:∃ W,W=((List.range wn).map fw).toArray:=⟨_,rfl⟩
 have hWz:W.size=wn:=by rw [hW]; simp
 have hWg:∀ i,i<wn→W[i]! =fw i:=fun i hi=>by rw [hW]; exact zeW fw hi
 have hWv:∀ i,i<W.size→0≤W[i]!.val∧W[i]!.val<18446744073709551616:=fun i hi=>by rw [hWg i (by omega)]; exact hfw i (by omega)
 refine Fn.enter (Tryz.func3) rfl rfl (fun w0 R=>?_)
 refine sA (xaf rfl (dB (xms rfl (xz zap rfl (TL.gtrF rfl rfl (by omega) rfl rfl (xmf rfl (xms rfl (xz zae rfl ?_))))))))
 refine TL.gtrF rfl rfl (by omega) rfl rfl (xpF rfl (dF rfl (xms rfl (xz zap rfl (TL.call [] [1] (zqk (by omega)) ⟨rfl,trivial⟩ trivial zsb rfl rfl rfl rfl ?_)))))
 rintro v Bs ⟨ab,mb,rfl,rfl⟩
 refine ⟨rfl,trivial,?_⟩
 refine TL.conseq 1 (B:=zam ab mb 139 29 (Array.replicate dn 0)) rfl (fun h hh=>zgN hh) trivial (xmu rfl (TL.ext (.pointer (some ⟨_,_,none⟩)) rfl rfl rfl rfl (xei rfl rfl (xap rfl (xai rfl (dB (xmi rfl (TL.neqF rfl rfl (by decide) rfl rfl ?_))))))))
 refine xmf rfl (xmp rfl (TL.nilP false rfl rfl zr4 rfl rfl rfl (xpF rfl (TL.done (TQ.then (TC.condF rfl (TC.skip (TQ.then ?_))))))))
 refine sB (xms rfl (xz zap rfl (xmi rfl (dK (TC.loopK (X:=Nat) [0,1,4,5,41,42] [0] (fun k=>[(43,.int .i64 ((k:Nat):Int))]) (fun k=>[(1,zam ab mb 139 29 (zao dn fd k))]) (fun k=>k≤dn) (fun k=>dn - k) (0) (Nat.zero_le _) ⟨rfl,trivial⟩ ⟨rfl,trivial⟩ (fun k hI=>(TC.sub (env':=[(43,_),(0,_),(1,_),(4,_),(5,_),(41,_),(42,_)]) (L':=[(1,_),(0,_)]) ⟨rfl,rfl,rfl,rfl,rfl,rfl,rfl,trivial⟩ ⟨rfl,rfl,trivial⟩ (sA (TL.lss rfl rfl rfl rfl (fun q1=>?_) (fun q1=>?_))))))))))
 refine dS (TC.condT rfl (TC.skip (TQ.then (TC.seq (TC.block (sA (xmi rfl (TL.iaO rfl hda rfl zap (by omega) rfl rfl ?_))))))))
 refine TL.ldRS 0 (.int _ _) rfl rfl hAd (by omega) (rfl) zdn rfl rfl (xai rfl (xai rfl (dG (xmp rfl (xmi rfl (xmi rfl (TL.callD [1] [1] (zdI (hfd k (by omega))) ⟨rfl,rfl,rfl,trivial⟩ ⟨rfl,trivial⟩ zif rfl rfl rfl rfl rfl trivial (dI ?_))))))))
 refine TL.add (((k+1:Nat):Int)) rfl rfl (wrN (by omega)) rfl rfl (xmi rfl (TL.done (TQ.roundK (k+1) ⟨by omega,by omega⟩ ⟨rfl,trivial⟩ ⟨rfl,trivial⟩ (kE6 rfl rfl rfl rfl rfl rfl trivial) (kL1 rfl trivial))))
 refine dS (TC.condF rfl (TC.exit (TQ.thenExit (TQ.thenExit (TQ.blockHere (TQ.then (TC.seq ?_)))))))
 obtain rfl:dn=k:=by omega
 refine TC.region (TL.bs0 2 encU zap rfl rfl (fun bk2=>⟨trivial,?_⟩))
 refine xms rfl (TL.appQ 2 0 (d2:=((List.range dn).map fd).toArray) rfl (zcv fd dn) rfl (hda) rfl rfl (hAd.congr fun i hi=>(zeW fd hi).symm) zmx (by decide) ze1 (by rw [zcv]; show 0+dn≤137438953472; omega) rfl rfl (fun v3=>⟨trivial,?_⟩))
 refine TL.conseq 2 (B:=ownA encU 1 29 v3 (arrI (zao dn fd dn))) rfl (fun h hh=>by rw [←zo4 hfd]; simpa using hh) trivial (TL.ownW 2 rfl (fun a5 g5 c5 hv5 hc5 ha5=>?_))
 rw [zcb,zay] at hv5 hc5 ha5
 cases hv5
 refine xav rfl (dA (xms rfl (TL.call [0] [0,4,5] (zhj hwa (by omega) hAw) ⟨rfl,trivial⟩ ⟨rfl,trivial⟩ zpB rfl rfl rfl rfl ?_)))
 rintro x Bs ⟨rb,v,rfl,rfl⟩
 refine ⟨rfl,trivial,?_⟩
 rw [←hW]
 refine TL.ownW 5 rfl (fun a6 g6 c6 hv6 hc6 ha6=>?_)
 cases hv6
 refine xap rfl (dB (xmp rfl (TL.nilP false rfl rfl zpf rfl rfl rfl (xmf rfl (xmp rfl (TL.callD [4] [4] zdl ⟨rfl,trivial⟩ ⟨rfl,trivial⟩ zgi rfl rfl rfl rfl rfl trivial (xms rfl (xz zae rfl ?_))))))))
 refine TL.eqlV rfl rfl rfl rfl (TL.neqB rfl rfl zdF rfl rfl ?_)
 rw [(show (!(decide ((0:Int)=(W.size:Int)) == decide ((wn:Int)=0)))=false by rw [hWz,show decide ((0:Int)=(wn:Int))=decide ((wn:Int)=0) from decide_eq_decide.2 eq_comm]; simp)]
 refine xpF rfl (dF rfl (xat rfl (dB (xms rfl (xz zae rfl (xmi rfl (dK (TC.loopK (X:=Nat) [1,5,9,10,68,69] [0,5] (fun i=>[(70,.int .i64 ((i:Nat):Int)),(11,.bool (!badA (zao dn fd dn) W (i)))]) (fun i=>[(4,pt rb (.cells #[.slice a6 W.size c6,.int .i64 (((i:Nat):Int)),.bool (badA (zao dn fd dn) W (i))] 145)),(1,zam ab mb 139 29 (runA (zao dn fd dn) W (i))),(2,ownA encU 1 29 (.slice a5 dn c5) (arrI (runA (zao dn fd dn) W (i))))]) (fun i=>i≤wn) (fun i=>wn - i) (0) (Nat.zero_le _) ⟨rfl,rfl,trivial⟩ ⟨rfl,rfl,rfl,trivial⟩ (fun i hI=>?_)))))))))
 refine TC.sub (env':=[(70,_),(11,_),(1,_),(5,_),(9,_),(10,_),(68,_),(69,_)]) (L':=[(4,_),(1,_),(2,_),(0,_),(5,_)]) ⟨rfl,rfl,rfl,rfl,rfl,rfl,rfl,rfl,trivial⟩ ⟨rfl,rfl,rfl,rfl,rfl,trivial⟩ (sA (TL.lss rfl rfl rfl rfl (fun q2=>?_) (fun q2=>?_)))
 refine dS (TC.condT rfl (TC.skip (TQ.then (TC.seq (TC.block (sA (xmi rfl (TL.iaO rfl hwa rfl zae (by omega) rfl rfl ?_))))))))
 refine TL.ldR 0 rfl rfl hAw (by omega) zbh rfl rfl (TL.alloc 6 (cs:=#[.bool false,.int .i64 0,.int .u64 0]) zdb rfl rfl rfl (fun _=>trivial) (fun bk6=>(xai rfl (TL.stW 6 3 [_,_,_] rfl rfl rfl rfl rfl rfl zbh rfl rfl trivial (dS ?_)))))
 have hWi:W[i]! =fw i:=hWg i (by omega)
 refine TC.region (xf 1 zaT rfl (xli 6 zah rfl rfl (TL.geq rfl rfl rfl rfl (fun q3=>?_) (fun q3=>?_))))
 refine xmt rfl (xf 1 zaT rfl (xli 6 zah rfl rfl (xms rfl (xz zap rfl (TL.lssV rfl rfl rfl rfl (TL.pickT (.bool _) rfl rfl rfl rfl (xab rfl (dA ?_))))))))
 refine xai rfl (dB (xmb rfl (TL.cases rfl (fun q4=>?_) (fun q4=>?_))))
 refine TL.done (TQ.then (TC.condT rfl ?_))
 have hjd:(fw i).cell<(dn:Int):=by simpa using (show decide ((fw i).cell<(dn:Int))=true by assumption)
 obtain ⟨j,hj⟩:=Int.eq_ofNat_of_zero_le (show 0≤(fw i).cell by assumption)
 rw [hj]
 refine TC.region (xms rfl (xf 1 zaT rfl (xli 6 zah rfl rfl (TL.iaO rfl ha5 rfl zap (by omega) rfl rfl (TL.ldRS 2 (.int .u64 (MemLike.get (runA (zao dn fd dn) W (i)) (j:Int))) rfl rfl (zl9 (by rw [zcb,zaQ,zay]) ha5) (by omega) (congrArg encU (zgM (by rw [zaQ,zay]; omega))) zdn rfl rfl (xai rfl (dS (TC.seq ?_))))))))
 try have hjn:¬(fw i).cell<(dn:Int):=by simpa using (show decide ((fw i).cell<(dn:Int))=false by assumption)
 refine TC.region (xf 0 zaI rfl (xlb 6 zcG rfl rfl (TL.not _ _ rfl rfl rfl rfl (xmb rfl (TL.cases rfl (fun q5=>?_) (fun q5=>?_))))))
 refine xmi rfl (xf 2 zcW rfl (xli 6 zdn rfl rfl (TL.neq rfl rfl rfl rfl (fun q6=>?_) (fun q6=>?_))))
 refine xpT rfl (TL.done (TQ.then (TC.condT rfl (TC.region (xaf rfl (dB (xf 0 zaI rfl (xlb 6 zcG rfl rfl ?_))))))))
 rw [(show (fw i).store=false by simpa using (show (!(fw i).store)=true by assumption))]
 refine xmf rfl (xo rfl (xpF rfl (dF rfl (xmp rfl (xmp rfl (TL.callD [4,5,1] [4,5,1] (zc2 (by omega) hc6 ha6 (by omega) hWv) ⟨rfl,rfl,trivial⟩ ⟨rfl,rfl,rfl,trivial⟩ zea rfl rfl rfl rfl rfl trivial ?_))))))
 rw [show (badA (zao dn fd dn) W i || !accG W[i]! (runA (zao dn fd dn) W i))=badA (zao dn fd dn) W (i+1) from rfl,show acc1 W[i]! (runA (zao dn fd dn) W i)=runA (zao dn fd dn) W (i+1) from rfl]
 refine xmi rfl (xms rfl (xz zae rfl (TL.sub _ rfl rfl (wr64 (by omega)) rfl rfl (TL.eqlV rfl rfl rfl rfl (TL.neqB rfl rfl zdF rfl rfl ?_)))))
 rw [(show (!(decide (i+1=W.size) == decide ((i:Int)=(wn:Int) - 1)))=false by rw [hWz,show decide (i+1=wn)=decide ((i:Int)=(wn:Int) - 1) from decide_eq_decide.2 (by omega)]; simp)]
 refine xmf rfl (xmp rfl (TL.callD [4] [4] zbs ⟨rfl,trivial⟩ ⟨rfl,trivial⟩ zd9 rfl rfl rfl rfl rfl trivial (xmi rfl (TL.add (((i+1:Nat):Int)) rfl rfl (wrN (by omega)) rfl rfl (TL.neqF rfl rfl (fun h=>h rfl) rfl rfl (xpF rfl (xmf rfl (xmp rfl ?_))))))))
 refine TL.callD [4] [4] zb3 ⟨rfl,trivial⟩ ⟨rfl,trivial⟩ zeq rfl rfl rfl rfl rfl trivial (xmf rfl (TL.neqB rfl rfl zdF rfl rfl ?_))
 rw [(show (!((!badA (zao dn fd dn) W (i+1)) == false))=false by rw [(zim hWi (show (fw i).store=false by simpa using (show (!(fw i).store)=true by assumption)) (by rw [hj]; assumption))]; rfl)]
 refine xpF rfl (TL.done (TQ.then (TC.condF rfl (TC.skip (TQ.inBlock (TQ.then (TC.region (TL.add (((i+1:Nat):Int)) rfl rfl (wrN (by omega)) rfl rfl ?_))))))))
 refine xmi rfl (TL.done (TQ.roundK (i+1) ⟨by omega,by omega⟩ ⟨rfl,congrArg (fun z=>some (Value.bool z)) (show false=!badA (zao dn fd dn) W (i+1) by rw [(zim hWi (show (fw i).store=false by simpa using (show (!(fw i).store)=true by assumption)) (by rw [hj]; assumption))]; rfl),trivial⟩ ⟨rfl,rfl,congrArg (fun z=>some (ownA encU 1 29 (.slice _ dn c5) (arrI z))) (zh5 hWi (show (fw i).store=false by simpa using (show (!(fw i).store)=true by assumption))),trivial⟩ (kE6 rfl rfl rfl rfl rfl rfl trivial) (kL2 rfl rfl trivial)))
 refine xpG rfl (TL.done (TQ.then (TC.condF rfl (TC.skip (TQ.then (sB (xf 0 zaI rfl (xlb 6 zcG rfl rfl ?_))))))))
 rw [(show (fw i).store=false by simpa using (show (!(fw i).store)=true by assumption))]
 refine xmf rfl (xo rfl (xpF rfl (dF rfl (xmp rfl (xmp rfl (TL.callD [4,5,1] [4,5,1] (zc2 (by omega) hc6 ha6 (by omega) hWv) ⟨rfl,rfl,trivial⟩ ⟨rfl,rfl,rfl,trivial⟩ zea rfl rfl rfl rfl rfl trivial ?_))))))
 rw [show (badA (zao dn fd dn) W i || !accG W[i]! (runA (zao dn fd dn) W i))=badA (zao dn fd dn) W (i+1) from rfl,show acc1 W[i]! (runA (zao dn fd dn) W i)=runA (zao dn fd dn) W (i+1) from rfl]
 refine xmi rfl (xms rfl (xz zae rfl (TL.sub _ rfl rfl (wr64 (by omega)) rfl rfl (TL.eqlV rfl rfl rfl rfl (TL.neqB rfl rfl zdF rfl rfl ?_)))))
 rw [(show (!(decide (i+1=W.size) == decide ((i:Int)=(wn:Int) - 1)))=false by rw [hWz,show decide (i+1=wn)=decide ((i:Int)=(wn:Int) - 1) from decide_eq_decide.2 (by omega)]; simp)]
 refine xmf rfl (xmp rfl (TL.callD [4] [4] zbs ⟨rfl,trivial⟩ ⟨rfl,trivial⟩ zd9 rfl rfl rfl rfl rfl trivial (xmi rfl (TL.add (((i+1:Nat):Int)) rfl rfl (wrN (by omega)) rfl rfl (TL.neqF rfl rfl (fun h=>h rfl) rfl rfl (xpF rfl (xmf rfl (xmp rfl ?_))))))))
 refine TL.callD [4] [4] zb3 ⟨rfl,trivial⟩ ⟨rfl,trivial⟩ zeq rfl rfl rfl rfl rfl trivial (xmb rfl (TL.neqB rfl rfl zdF rfl rfl ?_))
 rw [(show (!((!badA (zao dn fd dn) W (i+1)) == (!badA (zao dn fd dn) W (i))))=false by rw [(zbQ hWi (.inr (by rw [hj]; exact Decidable.not_not.1 (by assumption))))]; simp)]
 refine xpF rfl (TL.done (TQ.then (TC.condF rfl (TC.skip (TQ.inBlock (TQ.then (TC.region (TL.add (((i+1:Nat):Int)) rfl rfl (wrN (by omega)) rfl rfl ?_))))))))
 refine xmi rfl (TL.done (TQ.roundK (i+1) ⟨by omega,by omega⟩ ⟨rfl,congrArg (fun z=>some (Value.bool z)) (show (!badA (zao dn fd dn) W (i))=!badA (zao dn fd dn) W (i+1) by rw [(zbQ hWi (.inr (by rw [hj]; exact Decidable.not_not.1 (by assumption))))]),trivial⟩ ⟨rfl,rfl,congrArg (fun z=>some (ownA encU 1 29 (.slice _ dn c5) (arrI z))) (zh5 hWi (show (fw i).store=false by simpa using (show (!(fw i).store)=true by assumption))),trivial⟩ (kE6 rfl rfl rfl rfl rfl rfl trivial) (kL2 rfl rfl trivial)))
 refine xo rfl (xo rfl (xo rfl (xo rfl (xpF rfl (TL.done (TQ.then (TC.condF rfl (TC.skip ?_))))))))
 refine TQ.then (sB (xf 0 zaI rfl (xlb 6 zcG rfl rfl ?_)))
 rw [(show (fw i).store=true by simpa using (show (!(fw i).store)=false by assumption))]
 refine xmt rfl ?_
 rw [(show decide ((j:Int)<(dn:Int))=true from decide_eq_true (by omega))]
 refine xmt rfl (xpT rfl (TL.done (TQ.then (TC.condT rfl ?_))))
 obtain rfl:=ha5 (by omega)
 refine TC.region (xms rfl (xf 1 zaT rfl (xli 6 zah rfl rfl (xf 2 zcW rfl (xli 6 zdn rfl rfl (TL.iaO rfl ha5 rfl zap (by omega) rfl rfl (TL.stOF 2 (o:=0) (i:=j) (cur:=(arrI (runA (zao dn fd dn) W (i)))[j]!) (u:=(fw i).val) (by rw [zcb,zaQ,zay]) rfl rfl rfl rfl (by rw [zcb,zaQ,zay]; omega) (rfl) ⟨rfl,rfl⟩ (by rfl) zdn rfl rfl trivial (dA ?_))))))))
 refine xmp rfl (xmp rfl (TL.callD [4,5,1] [4,5,1] (zc2 (by omega) hc6 ha6 (by omega) hWv) ⟨rfl,rfl,trivial⟩ ⟨rfl,rfl,rfl,trivial⟩ zea rfl rfl rfl rfl rfl trivial ?_))
 rw [show (badA (zao dn fd dn) W i || !accG W[i]! (runA (zao dn fd dn) W i))=badA (zao dn fd dn) W (i+1) from rfl,show acc1 W[i]! (runA (zao dn fd dn) W i)=runA (zao dn fd dn) W (i+1) from rfl]
 refine xmi rfl (xms rfl (xz zae rfl (TL.sub _ rfl rfl (wr64 (by omega)) rfl rfl (TL.eqlV rfl rfl rfl rfl (TL.neqB rfl rfl zdF rfl rfl ?_)))))
 rw [(show (!(decide (i+1=W.size) == decide ((i:Int)=(wn:Int) - 1)))=false by rw [hWz,show decide (i+1=wn)=decide ((i:Int)=(wn:Int) - 1) from decide_eq_decide.2 (by omega)]; simp)]
 refine xmf rfl (xmp rfl (TL.callD [4] [4] zbs ⟨rfl,trivial⟩ ⟨rfl,trivial⟩ zd9 rfl rfl rfl rfl rfl trivial (xmi rfl (TL.add (((i+1:Nat):Int)) rfl rfl (wrN (by omega)) rfl rfl (TL.neqF rfl rfl (fun h=>h rfl) rfl rfl (xpF rfl (xmf rfl (xmp rfl ?_))))))))
 refine TL.callD [4] [4] zb3 ⟨rfl,trivial⟩ ⟨rfl,trivial⟩ zeq rfl rfl rfl rfl rfl trivial (xmb rfl (TL.neqB rfl rfl zdF rfl rfl ?_))
 rw [(show (!((!badA (zao dn fd dn) W (i+1)) == (!badA (zao dn fd dn) W (i))))=false by rw [(zbQ hWi (.inl (show (fw i).store=true by simpa using (show (!(fw i).store)=false by assumption))))]; simp)]
 refine xpF rfl (TL.done (TQ.then (TC.condF rfl (TC.skip (TQ.inBlock (TQ.then (TC.region (TL.add (((i+1:Nat):Int)) rfl rfl (wrN (by omega)) rfl rfl ?_))))))))
 refine xmi rfl (TL.done (TQ.roundK (i+1) ⟨by omega,by omega⟩ ⟨rfl,congrArg (fun z=>some (Value.bool z)) (show (!badA (zao dn fd dn) W (i))=!badA (zao dn fd dn) W (i+1) by rw [(zbQ hWi (.inl (show (fw i).store=true by simpa using (show (!(fw i).store)=false by assumption))))]),trivial⟩ ⟨rfl,rfl,congrArg (fun z=>some (ownA encU 1 29 (.slice _ dn c5) (z))) (zuK (σ:=zao dn fd dn) hWi (show (fw i).store=true by simpa using (show (!(fw i).store)=false by assumption)) hj (by rw [zay]; omega) (hfw i (by omega))),trivial⟩ (kE6 rfl rfl rfl rfl rfl rfl trivial) (kL2 rfl rfl trivial)))
 refine TL.done (TQ.then (TC.condF rfl (TC.skip (TQ.then (TC.seq (TC.seq ?_))))))
 try have hjn:¬(fw i).cell<(dn:Int):=by simpa using (show decide ((fw i).cell<(dn:Int))=false by assumption)
 refine TC.region (xf 0 zaI rfl (xlb 6 zcG rfl rfl (TL.not _ _ rfl rfl rfl rfl (xmb rfl (TL.cases rfl (fun q5=>?_) (fun q5=>?_))))))
 refine xmi rfl (xf 2 zcW rfl (xli 6 zdn rfl rfl (TL.neq rfl rfl rfl rfl (fun q6=>?_) (fun q6=>?_))))
 refine xpT rfl (TL.done (TQ.then (TC.condT rfl (TC.region (xaf rfl (dB (xf 0 zaI rfl (xlb 6 zcG rfl rfl ?_))))))))
 rw [(show (fw i).store=false by simpa using (show (!(fw i).store)=true by assumption))]
 refine xmf rfl (xo rfl (xpF rfl (dF rfl (xmp rfl (xmp rfl (TL.callD [4,5,1] [4,5,1] (zc2 (by omega) hc6 ha6 (by omega) hWv) ⟨rfl,rfl,trivial⟩ ⟨rfl,rfl,rfl,trivial⟩ zea rfl rfl rfl rfl rfl trivial ?_))))))
 rw [show (badA (zao dn fd dn) W i || !accG W[i]! (runA (zao dn fd dn) W i))=badA (zao dn fd dn) W (i+1) from rfl,show acc1 W[i]! (runA (zao dn fd dn) W i)=runA (zao dn fd dn) W (i+1) from rfl]
 refine xmi rfl (xms rfl (xz zae rfl (TL.sub _ rfl rfl (wr64 (by omega)) rfl rfl (TL.eqlV rfl rfl rfl rfl (TL.neqB rfl rfl zdF rfl rfl ?_)))))
 rw [(show (!(decide (i+1=W.size) == decide ((i:Int)=(wn:Int) - 1)))=false by rw [hWz,show decide (i+1=wn)=decide ((i:Int)=(wn:Int) - 1) from decide_eq_decide.2 (by omega)]; simp)]
 refine xmf rfl (xmp rfl (TL.callD [4] [4] zbs ⟨rfl,trivial⟩ ⟨rfl,trivial⟩ zd9 rfl rfl rfl rfl rfl trivial (xmi rfl (TL.add (((i+1:Nat):Int)) rfl rfl (wrN (by omega)) rfl rfl (TL.neqF rfl rfl (fun h=>h rfl) rfl rfl (xpF rfl (xmf rfl (xmp rfl ?_))))))))
 refine TL.callD [4] [4] zb3 ⟨rfl,trivial⟩ ⟨rfl,trivial⟩ zeq rfl rfl rfl rfl rfl trivial (xmf rfl (TL.neqB rfl rfl zdF rfl rfl ?_))
 rw [(show (!((!badA (zao dn fd dn) W (i+1)) == false))=false by rw [(zim hWi (show (fw i).store=false by simpa using (show (!(fw i).store)=true by assumption)) (by rw [(zem (m:=runA (zao dn fd dn) W (i)) (i:=(fw i).cell) (by rw [zaQ]; exact (show ¬(0≤(fw i).cell∧(fw i).cell<((zao dn fd dn).size:Int)) by rw [zay]; omega)))]; assumption))]; rfl)]
 refine xpF rfl (TL.done (TQ.then (TC.condF rfl (TC.skip (TQ.inBlock (TQ.then (TC.region (TL.add (((i+1:Nat):Int)) rfl rfl (wrN (by omega)) rfl rfl ?_))))))))
 refine xmi rfl (TL.done ?_)
 refine TQ.roundK (i+1) ⟨by omega,by omega⟩ ⟨rfl,congrArg (fun z=>some (Value.bool z)) (show false=!badA (zao dn fd dn) W (i+1) by rw [(zim hWi (show (fw i).store=false by simpa using (show (!(fw i).store)=true by assumption)) (by rw [(zem (m:=runA (zao dn fd dn) W (i)) (i:=(fw i).cell) (by rw [zaQ]; exact (show ¬(0≤(fw i).cell∧(fw i).cell<((zao dn fd dn).size:Int)) by rw [zay]; omega)))]; assumption))]; rfl),trivial⟩ ⟨rfl,rfl,congrArg (fun z=>some (ownA encU 1 29 (.slice _ dn c5) (arrI z))) (zh5 hWi (show (fw i).store=false by simpa using (show (!(fw i).store)=true by assumption))),trivial⟩ (kE6 rfl rfl rfl rfl rfl rfl trivial) (kL2 rfl rfl trivial)
 refine xpG rfl (TL.done (TQ.then (TC.condF rfl (TC.skip (TQ.then (sB (xf 0 zaI rfl (xlb 6 zcG rfl rfl ?_))))))))
 rw [(show (fw i).store=false by simpa using (show (!(fw i).store)=true by assumption))]
 refine xmf rfl (xo rfl (xpF rfl (dF rfl (xmp rfl (xmp rfl (TL.callD [4,5,1] [4,5,1] (zc2 (by omega) hc6 ha6 (by omega) hWv) ⟨rfl,rfl,trivial⟩ ⟨rfl,rfl,rfl,trivial⟩ zea rfl rfl rfl rfl rfl trivial ?_))))))
 rw [show (badA (zao dn fd dn) W i || !accG W[i]! (runA (zao dn fd dn) W i))=badA (zao dn fd dn) W (i+1) from rfl,show acc1 W[i]! (runA (zao dn fd dn) W i)=runA (zao dn fd dn) W (i+1) from rfl]
 refine xmi rfl (xms rfl (xz zae rfl (TL.sub _ rfl rfl (wr64 (by omega)) rfl rfl (TL.eqlV rfl rfl rfl rfl (TL.neqB rfl rfl zdF rfl rfl ?_)))))
 rw [(show (!(decide (i+1=W.size) == decide ((i:Int)=(wn:Int) - 1)))=false by rw [hWz,show decide (i+1=wn)=decide ((i:Int)=(wn:Int) - 1) from decide_eq_decide.2 (by omega)]; simp)]
 refine xmf rfl (xmp rfl (TL.callD [4] [4] zbs ⟨rfl,trivial⟩ ⟨rfl,trivial⟩ zd9 rfl rfl rfl rfl rfl trivial (xmi rfl (TL.add (((i+1:Nat):Int)) rfl rfl (wrN (by omega)) rfl rfl (TL.neqF rfl rfl (fun h=>h rfl) rfl rfl (xpF rfl (xmf rfl (xmp rfl ?_))))))))
 refine TL.callD [4] [4] zb3 ⟨rfl,trivial⟩ ⟨rfl,trivial⟩ zeq rfl rfl rfl rfl rfl trivial (xmb rfl (TL.neqB rfl rfl zdF rfl rfl ?_))
 rw [(show (!((!badA (zao dn fd dn) W (i+1)) == (!badA (zao dn fd dn) W (i))))=false by rw [(zbQ hWi (.inr ((zem (m:=runA (zao dn fd dn) W (i)) (i:=(fw i).cell) (by rw [zaQ]; exact (show ¬(0≤(fw i).cell∧(fw i).cell<((zao dn fd dn).size:Int)) by rw [zay]; omega))).trans (Decidable.not_not.1 (by assumption)))))]; simp)]
 refine xpF rfl (TL.done (TQ.then (TC.condF rfl (TC.skip (TQ.inBlock (TQ.then (TC.region (TL.add (((i+1:Nat):Int)) rfl rfl (wrN (by omega)) rfl rfl ?_))))))))
 refine xmi rfl (TL.done (TQ.roundK (i+1) ⟨by omega,by omega⟩ ⟨rfl,congrArg (fun z=>some (Value.bool z)) (show (!badA (zao dn fd dn) W (i))=!badA (zao dn fd dn) W (i+1) by rw [(zbQ hWi (.inr ((zem (m:=runA (zao dn fd dn) W (i)) (i:=(fw i).cell) (by rw [zaQ]; exact (show ¬(0≤(fw i).cell∧(fw i).cell<((zao dn fd dn).size:Int)) by rw [zay]; omega))).trans (Decidable.not_not.1 (by assumption)))))]),trivial⟩ ⟨rfl,rfl,congrArg (fun z=>some (ownA encU 1 29 (.slice _ dn c5) (arrI z))) (zh5 hWi (show (fw i).store=false by simpa using (show (!(fw i).store)=true by assumption))),trivial⟩ (kE6 rfl rfl rfl rfl rfl rfl trivial) (kL2 rfl rfl trivial)))
 refine xo rfl (xo rfl (xo rfl (xo rfl (xpF rfl (TL.done (TQ.then (TC.condF rfl (TC.skip ?_))))))))
 refine TQ.then (sB (xf 0 zaI rfl (xlb 6 zcG rfl rfl ?_)))
 rw [(show (fw i).store=true by simpa using (show (!(fw i).store)=false by assumption))]
 refine xmt rfl ?_
 rw [(show decide ((fw i).cell<(dn:Int))=false from decide_eq_false (by omega))]
 refine xmf rfl (xpG rfl (dF rfl (xmp rfl (xmp rfl (TL.callD [4,5,1] [4,5,1] (zc2 (by omega) hc6 ha6 (by omega) hWv) ⟨rfl,rfl,trivial⟩ ⟨rfl,rfl,rfl,trivial⟩ zea rfl rfl rfl rfl rfl trivial ?_)))))
 rw [show (badA (zao dn fd dn) W i || !accG W[i]! (runA (zao dn fd dn) W i))=badA (zao dn fd dn) W (i+1) from rfl,show acc1 W[i]! (runA (zao dn fd dn) W i)=runA (zao dn fd dn) W (i+1) from rfl]
 refine xmi rfl (xms rfl (xz zae rfl (TL.sub _ rfl rfl (wr64 (by omega)) rfl rfl (TL.eqlV rfl rfl rfl rfl (TL.neqB rfl rfl zdF rfl rfl ?_)))))
 rw [(show (!(decide (i+1=W.size) == decide ((i:Int)=(wn:Int) - 1)))=false by rw [hWz,show decide (i+1=wn)=decide ((i:Int)=(wn:Int) - 1) from decide_eq_decide.2 (by omega)]; simp)]
 refine xmf rfl (xmp rfl (TL.callD [4] [4] zbs ⟨rfl,trivial⟩ ⟨rfl,trivial⟩ zd9 rfl rfl rfl rfl rfl trivial (xmi rfl (TL.add (((i+1:Nat):Int)) rfl rfl (wrN (by omega)) rfl rfl (TL.neqF rfl rfl (fun h=>h rfl) rfl rfl (xpF rfl (xmf rfl (xmp rfl ?_))))))))
 refine TL.callD [4] [4] zb3 ⟨rfl,trivial⟩ ⟨rfl,trivial⟩ zeq rfl rfl rfl rfl rfl trivial (xmb rfl (TL.neqB rfl rfl zdF rfl rfl ?_))
 rw [(show (!((!badA (zao dn fd dn) W (i+1)) == (!badA (zao dn fd dn) W (i))))=false by rw [(zbQ hWi (.inl (show (fw i).store=true by simpa using (show (!(fw i).store)=false by assumption))))]; simp)]
 refine xpF rfl (TL.done (TQ.then (TC.condF rfl (TC.skip (TQ.inBlock (TQ.then (TC.region (TL.add (((i+1:Nat):Int)) rfl rfl (wrN (by omega)) rfl rfl ?_))))))))
 refine xmi rfl (TL.done (TQ.roundK (i+1) ⟨by omega,by omega⟩ ⟨rfl,congrArg (fun z=>some (Value.bool z)) (show (!badA (zao dn fd dn) W (i))=!badA (zao dn fd dn) W (i+1) by rw [(zbQ hWi (.inl (show (fw i).store=true by simpa using (show (!(fw i).store)=false by assumption))))]),trivial⟩ ⟨rfl,rfl,congrArg (fun z=>some (ownA encU 1 29 (.slice _ dn c5) (arrI z))) (znT hWi (show ¬(0≤(fw i).cell∧(fw i).cell<((zao dn fd dn).size:Int)) by rw [zay]; omega)),trivial⟩ (kE6 rfl rfl rfl rfl rfl rfl trivial) (kL2 rfl rfl trivial)))
 refine xmf rfl (xo rfl (xo rfl (xo rfl (xo rfl (xo rfl (xpF rfl (xaf rfl (dA ?_))))))))
 refine xai rfl (dB (xmf rfl (TL.done (TQ.then (TC.condF rfl (TC.skip (TQ.then (TC.seq ?_))))))))
 refine TC.seq ?_
 try have hjn:¬(fw i).cell<(dn:Int):=by simpa using (show decide ((fw i).cell<(dn:Int))=false by assumption)
 refine TC.region (xf 0 zaI rfl (xlb 6 zcG rfl rfl (TL.not _ _ rfl rfl rfl rfl (xmb rfl (TL.cases rfl (fun q4=>?_) (fun q4=>?_))))))
 refine xmi rfl (xf 2 zcW rfl (xli 6 zdn rfl rfl (TL.neq rfl rfl rfl rfl (fun q5=>?_) (fun q5=>?_))))
 refine xpT rfl (TL.done (TQ.then (TC.condT rfl (TC.region (xaf rfl (dB (xf 0 zaI rfl (xlb 6 zcG rfl rfl ?_))))))))
 rw [(show (fw i).store=false by simpa using (show (!(fw i).store)=true by assumption))]
 refine xmf rfl (xo rfl (xpF rfl (dF rfl (xmp rfl (xmp rfl (TL.callD [4,5,1] [4,5,1] (zc2 (by omega) hc6 ha6 (by omega) hWv) ⟨rfl,rfl,trivial⟩ ⟨rfl,rfl,rfl,trivial⟩ zea rfl rfl rfl rfl rfl trivial ?_))))))
 rw [show (badA (zao dn fd dn) W i || !accG W[i]! (runA (zao dn fd dn) W i))=badA (zao dn fd dn) W (i+1) from rfl,show acc1 W[i]! (runA (zao dn fd dn) W i)=runA (zao dn fd dn) W (i+1) from rfl]
 refine xmi rfl (xms rfl (xz zae rfl (TL.sub _ rfl rfl (wr64 (by omega)) rfl rfl (TL.eqlV rfl rfl rfl rfl (TL.neqB rfl rfl zdF rfl rfl ?_)))))
 rw [(show (!(decide (i+1=W.size) == decide ((i:Int)=(wn:Int) - 1)))=false by rw [hWz,show decide (i+1=wn)=decide ((i:Int)=(wn:Int) - 1) from decide_eq_decide.2 (by omega)]; simp)]
 refine xmf rfl (xmp rfl (TL.callD [4] [4] zbs ⟨rfl,trivial⟩ ⟨rfl,trivial⟩ zd9 rfl rfl rfl rfl rfl trivial (xmi rfl (TL.add (((i+1:Nat):Int)) rfl rfl (wrN (by omega)) rfl rfl (TL.neqF rfl rfl (fun h=>h rfl) rfl rfl (xpF rfl (xmf rfl (xmp rfl ?_))))))))
 refine TL.callD [4] [4] zb3 ⟨rfl,trivial⟩ ⟨rfl,trivial⟩ zeq rfl rfl rfl rfl rfl trivial (xmf rfl (TL.neqB rfl rfl zdF rfl rfl ?_))
 rw [(show (!((!badA (zao dn fd dn) W (i+1)) == false))=false by rw [(zim hWi (show (fw i).store=false by simpa using (show (!(fw i).store)=true by assumption)) (by rw [(zem (m:=runA (zao dn fd dn) W (i)) (i:=(fw i).cell) (by rw [zaQ]; exact (show ¬(0≤(fw i).cell∧(fw i).cell<((zao dn fd dn).size:Int)) by rw [zay]; omega)))]; assumption))]; rfl)]
 refine xpF rfl (TL.done (TQ.then (TC.condF rfl (TC.skip (TQ.inBlock (TQ.then (TC.region (TL.add (((i+1:Nat):Int)) rfl rfl (wrN (by omega)) rfl rfl ?_))))))))
 refine xmi rfl (TL.done ?_)
 refine TQ.roundK (i+1) ⟨by omega,by omega⟩ ⟨rfl,congrArg (fun z=>some (Value.bool z)) (show false=!badA (zao dn fd dn) W (i+1) by rw [(zim hWi (show (fw i).store=false by simpa using (show (!(fw i).store)=true by assumption)) (by rw [(zem (m:=runA (zao dn fd dn) W (i)) (i:=(fw i).cell) (by rw [zaQ]; exact (show ¬(0≤(fw i).cell∧(fw i).cell<((zao dn fd dn).size:Int)) by rw [zay]; omega)))]; assumption))]; rfl),trivial⟩ ⟨rfl,rfl,congrArg (fun z=>some (ownA encU 1 29 (.slice _ dn c5) (arrI z))) (zh5 hWi (show (fw i).store=false by simpa using (show (!(fw i).store)=true by assumption))),trivial⟩ (kE6 rfl rfl rfl rfl rfl rfl trivial) (kL2 rfl rfl trivial)
 refine xpG rfl (TL.done (TQ.then (TC.condF rfl (TC.skip (TQ.then (sB (xf 0 zaI rfl (xlb 6 zcG rfl rfl ?_))))))))
 rw [(show (fw i).store=false by simpa using (show (!(fw i).store)=true by assumption))]
 refine xmf rfl (xo rfl (xpF rfl (dF rfl (xmp rfl (xmp rfl (TL.callD [4,5,1] [4,5,1] (zc2 (by omega) hc6 ha6 (by omega) hWv) ⟨rfl,rfl,trivial⟩ ⟨rfl,rfl,rfl,trivial⟩ zea rfl rfl rfl rfl rfl trivial ?_))))))
 rw [show (badA (zao dn fd dn) W i || !accG W[i]! (runA (zao dn fd dn) W i))=badA (zao dn fd dn) W (i+1) from rfl,show acc1 W[i]! (runA (zao dn fd dn) W i)=runA (zao dn fd dn) W (i+1) from rfl]
 refine xmi rfl (xms rfl (xz zae rfl (TL.sub _ rfl rfl (wr64 (by omega)) rfl rfl (TL.eqlV rfl rfl rfl rfl (TL.neqB rfl rfl zdF rfl rfl ?_)))))
 rw [(show (!(decide (i+1=W.size) == decide ((i:Int)=(wn:Int) - 1)))=false by rw [hWz,show decide (i+1=wn)=decide ((i:Int)=(wn:Int) - 1) from decide_eq_decide.2 (by omega)]; simp)]
 refine xmf rfl (xmp rfl (TL.callD [4] [4] zbs ⟨rfl,trivial⟩ ⟨rfl,trivial⟩ zd9 rfl rfl rfl rfl rfl trivial (xmi rfl (TL.add (((i+1:Nat):Int)) rfl rfl (wrN (by omega)) rfl rfl (TL.neqF rfl rfl (fun h=>h rfl) rfl rfl (xpF rfl (xmf rfl (xmp rfl ?_))))))))
 refine TL.callD [4] [4] zb3 ⟨rfl,trivial⟩ ⟨rfl,trivial⟩ zeq rfl rfl rfl rfl rfl trivial (xmb rfl (TL.neqB rfl rfl zdF rfl rfl ?_))
 rw [(show (!((!badA (zao dn fd dn) W (i+1)) == (!badA (zao dn fd dn) W (i))))=false by rw [(zbQ hWi (.inr ((zem (m:=runA (zao dn fd dn) W (i)) (i:=(fw i).cell) (by rw [zaQ]; exact (show ¬(0≤(fw i).cell∧(fw i).cell<((zao dn fd dn).size:Int)) by rw [zay]; omega))).trans (Decidable.not_not.1 (by assumption)))))]; simp)]
 refine xpF rfl (TL.done (TQ.then (TC.condF rfl (TC.skip (TQ.inBlock (TQ.then (TC.region (TL.add (((i+1:Nat):Int)) rfl rfl (wrN (by omega)) rfl rfl ?_))))))))
 refine xmi rfl (TL.done (TQ.roundK (i+1) ⟨by omega,by omega⟩ ⟨rfl,congrArg (fun z=>some (Value.bool z)) (show (!badA (zao dn fd dn) W (i))=!badA (zao dn fd dn) W (i+1) by rw [(zbQ hWi (.inr ((zem (m:=runA (zao dn fd dn) W (i)) (i:=(fw i).cell) (by rw [zaQ]; exact (show ¬(0≤(fw i).cell∧(fw i).cell<((zao dn fd dn).size:Int)) by rw [zay]; omega))).trans (Decidable.not_not.1 (by assumption)))))]),trivial⟩ ⟨rfl,rfl,congrArg (fun z=>some (ownA encU 1 29 (.slice _ dn c5) (arrI z))) (zh5 hWi (show (fw i).store=false by simpa using (show (!(fw i).store)=true by assumption))),trivial⟩ (kE6 rfl rfl rfl rfl rfl rfl trivial) (kL2 rfl rfl trivial)))
 refine xo rfl (xo rfl (xo rfl (xo rfl (xpF rfl (TL.done (TQ.then (TC.condF rfl (TC.skip ?_))))))))
 refine TQ.then (sB (xf 0 zaI rfl (xlb 6 zcG rfl rfl ?_)))
 rw [(show (fw i).store=true by simpa using (show (!(fw i).store)=false by assumption))]
 refine xmt rfl (xmf rfl (xpG rfl (dF rfl (xmp rfl (xmp rfl (TL.callD [4,5,1] [4,5,1] (zc2 (by omega) hc6 ha6 (by omega) hWv) ⟨rfl,rfl,trivial⟩ ⟨rfl,rfl,rfl,trivial⟩ zea rfl rfl rfl rfl rfl trivial ?_))))))
 rw [show (badA (zao dn fd dn) W i || !accG W[i]! (runA (zao dn fd dn) W i))=badA (zao dn fd dn) W (i+1) from rfl,show acc1 W[i]! (runA (zao dn fd dn) W i)=runA (zao dn fd dn) W (i+1) from rfl]
 refine xmi rfl (xms rfl (xz zae rfl (TL.sub _ rfl rfl (wr64 (by omega)) rfl rfl (TL.eqlV rfl rfl rfl rfl (TL.neqB rfl rfl zdF rfl rfl ?_)))))
 rw [(show (!(decide (i+1=W.size) == decide ((i:Int)=(wn:Int) - 1)))=false by rw [hWz,show decide (i+1=wn)=decide ((i:Int)=(wn:Int) - 1) from decide_eq_decide.2 (by omega)]; simp)]
 refine xmf rfl (xmp rfl (TL.callD [4] [4] zbs ⟨rfl,trivial⟩ ⟨rfl,trivial⟩ zd9 rfl rfl rfl rfl rfl trivial (xmi rfl (TL.add (((i+1:Nat):Int)) rfl rfl (wrN (by omega)) rfl rfl (TL.neqF rfl rfl (fun h=>h rfl) rfl rfl (xpF rfl (xmf rfl (xmp rfl ?_))))))))
 refine TL.callD [4] [4] zb3 ⟨rfl,trivial⟩ ⟨rfl,trivial⟩ zeq rfl rfl rfl rfl rfl trivial (xmb rfl (TL.neqB rfl rfl zdF rfl rfl ?_))
 rw [(show (!((!badA (zao dn fd dn) W (i+1)) == (!badA (zao dn fd dn) W (i))))=false by rw [(zbQ hWi (.inl (show (fw i).store=true by simpa using (show (!(fw i).store)=false by assumption))))]; simp)]
 refine xpF rfl (TL.done (TQ.then (TC.condF rfl (TC.skip (TQ.inBlock (TQ.then (TC.region (TL.add (((i+1:Nat):Int)) rfl rfl (wrN (by omega)) rfl rfl ?_))))))))
 refine xmi rfl (TL.done (TQ.roundK (i+1) ⟨by omega,by omega⟩ ⟨rfl,congrArg (fun z=>some (Value.bool z)) (show (!badA (zao dn fd dn) W (i))=!badA (zao dn fd dn) W (i+1) by rw [(zbQ hWi (.inl (show (fw i).store=true by simpa using (show (!(fw i).store)=false by assumption))))]),trivial⟩ ⟨rfl,rfl,congrArg (fun z=>some (ownA encU 1 29 (.slice _ dn c5) (arrI z))) (znT hWi (show ¬(0≤(fw i).cell∧(fw i).cell<((zao dn fd dn).size:Int)) by rw [zay]; omega)),trivial⟩ (kE6 rfl rfl rfl rfl rfl rfl trivial) (kL2 rfl rfl trivial)))
 refine dS (TC.condF rfl (TC.exit (TQ.thenExit (TQ.thenExit (TQ.blockHere (TQ.then (sB (xms rfl ?_))))))))
 refine xz zap rfl (xmi rfl (dK (TC.loopK (X:=Nat) [1,5,10,134,135] [0,1,2,4,5] (fun k=>[(136,.int .i64 ((k:Nat):Int))]) (fun k=>[]) (fun k=>k≤dn) (fun k=>dn - k) (0) (Nat.zero_le _) ⟨rfl,trivial⟩ trivial (fun k hI=>(TC.sub (env':=[(136,_),(1,_),(5,_),(10,_),(134,_),(135,_)]) (L':=[(0,_),(1,_),(2,_),(4,_),(5,_)]) ⟨rfl,rfl,rfl,rfl,rfl,rfl,trivial⟩ ⟨rfl,rfl,rfl,rfl,rfl,trivial⟩ (sA (TL.lss rfl rfl rfl rfl (fun q3=>?_) (fun q3=>?_))))))))
 refine dS (TC.condT rfl (TC.skip (TQ.then (TC.seq (TC.block (sA (xmi rfl (TL.iaO rfl ha5 rfl zap (by omega) rfl rfl ?_))))))))
 refine TL.ldRS 2 (.int _ _) rfl rfl (zl9 (by rw [zcb,zaQ,zay]) ha5) (by omega) (rfl) zdn rfl rfl (xai rfl (xai rfl (dA (xmp rfl (xmi rfl (TL.callD [1] [1] zfG ⟨rfl,rfl,trivial⟩ ⟨rfl,trivial⟩ zj9 rfl rfl rfl rfl rfl trivial (xmu rfl (xei rfl rfl ?_))))))))
 refine xei rfl rfl (xai rfl (xai rfl (dA (xmi rfl (xmi rfl (TL.neqF rfl rfl (fun h=>h (by rw [zgM (by rw [zaQ,zay]; omega)])) rfl rfl (TL.done (TQ.then ?_))))))))
 refine TC.condF rfl (TC.skip (TQ.inBlock (TQ.then (TC.region (TL.add (((k+1:Nat):Int)) rfl rfl (wrN (by omega)) rfl rfl (xmi rfl (TL.done (TQ.roundK (k+1) ⟨by omega,by omega⟩ ⟨rfl,trivial⟩ trivial (kE5 rfl rfl rfl rfl rfl trivial) (kL5 rfl rfl rfl rfl rfl trivial)))))))))
 refine dS (TC.condF rfl (TC.exit (TQ.thenExit (TQ.thenExit (TQ.blockHere (TQ.then (sA (xmp rfl ?_))))))))
 refine xmp rfl (TL.callD [4,5,1] [4,5,1] (zsG (by omega) hc6 ha6 (by omega)) ⟨rfl,rfl,trivial⟩ ⟨rfl,rfl,rfl,trivial⟩ zea rfl rfl rfl rfl rfl trivial (xmt rfl (xmp rfl (TL.callD [4] [4] zdl ⟨rfl,trivial⟩ ⟨rfl,trivial⟩ zgi rfl rfl rfl rfl rfl trivial ?_))))
 rw [decide_eq_true (show ((i:Nat):Int)=(W.size:Int) by omega)]
 refine xpT rfl (xmt rfl (xmp rfl (TL.callD [4] [4] zbs ⟨rfl,trivial⟩ ⟨rfl,trivial⟩ zd9 rfl rfl rfl rfl rfl trivial (xms rfl (xz zae rfl (TL.eqlT rfl rfl (by omega) rfl rfl (xpT rfl (xmt rfl ?_))))))))
 refine TL.callD [] [] zf7 trivial trivial zpH rfl rfl rfl rfl rfl trivial (xpT rfl (xat rfl (dR ?_)))
 refine FQ.ret1 (v:=(.bool true)) (Bs:=[_]) [0] rfl rfl rfl ⟨rfl,trivial⟩ ?_
 exact ⟨rfl,rfl⟩
end Go.Proofs.YtabjfnfglcghfaaGreat
