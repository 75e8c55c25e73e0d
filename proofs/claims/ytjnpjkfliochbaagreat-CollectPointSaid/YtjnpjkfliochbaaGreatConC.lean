import Derived.Test.YtjnpjkfliochbaaGreatConB
set_option linter.unusedVariables false
set_option linter.unusedSimpArgs false
set_option maxRecDepth 20000
namespace Go.Proofs.YtjnpjkfliochbaaGreat
open Go.Eng Go.Tm
set_option maxHeartbeats 2000000 in
theorem zgz {l:Lay} (hl:l.Ok) {pb ab mb:Nat} {σ:Array UInt64} {k:Int} {pr:Int→Int} {g:G} {o:Op3} {w:Int} (hk:0≤k∧k≤60) (hC:Go.Tm.Calm l pr ⟨1,k⟩ (fun _=>k) σ g):Go.Eng.Fn Tryz.prog 59 [.pointer (some ⟨pb,0,none⟩),.agg #[.int .i64 o.kind,.int .i64 o.u,.int .i64 o.v,.int .i64 w]] [pt pb (.cells #[.int .i64 l.V,.int .i64 l.S,.int .i64 l.T,.pointer (some ⟨ab,0,none⟩),.int .i64 k] 117),zaj ab mb 140 71 (σ)] (fun x Bs=>∃ b σ2,x=.bool b∧Bs=[pt pb (.cells #[.int .i64 l.V,.int .i64 l.S,.int .i64 l.T,.pointer (some ⟨ab,0,none⟩),.int .i64 k] 117),zaj ab mb 140 71 (σ2)]∧(b=false∧σ2=σ∨b=true∧zlq l σ σ2∧∃ g2,Upd l pr ⟨1,k⟩ (parent l σ) k σ2 g2)):=by
 have hb:=zeX hl
 have hnb:=za0 hl
 have hp:=zmN hk
 have ht:=zi4 hl
 have hW1:=hC.writ hl
 refine Fn.enter (Tryz.func59) rfl rfl (fun w0 R=>?_)
 refine sA (xB 2 rfl (fun bk2=>(xaf rfl (dS (TC.seq (TC.draw [(0,true),(1,true),(2,true),(3,true),(4,true),(5,true),(6,true),(7,true),(8,true),(9,true),(10,true),(11,true),(12,true),(13,true),(14,true),(15,true),(16,true),(17,true),(18,true),(19,true),(20,true),(21,true),(22,true),(23,true),(24,true),(25,true),(26,true),(27,true),(28,true),(29,true),(30,true),(31,true),(32,true),(33,true),(34,true)] [0,2] fc_m (by kernel_rfl) (xf 1 zaB rfl (xli 2 zac rfl rfl (xf 2 zaA rfl ?_)))))))))
 refine xli 2 zac rfl rfl (TL.eql rfl rfl rfl rfl (fun q1=>?_) (fun q1=>?_))
 refine xmt rfl (xo rfl (xo rfl (xo rfl (xpT rfl (xmt rfl (xo rfl (xo rfl (xo rfl ?_))))))))
 refine xo rfl (xo rfl (xo rfl (xo rfl (xo rfl (xpT rfl (xmt rfl (xo rfl (xo rfl ?_))))))))
 refine xo rfl (xpT rfl (xmt rfl (xo rfl (xo rfl (xo rfl (xo rfl (xo rfl (xo rfl ?_))))))))
 refine xo rfl (xo rfl (xpT rfl (dT rfl (xaf rfl (dRR ?_)))))
 refine FQ.ret1 (v:=(.bool false)) (Bs:=[_,_]) [0,1] rfl rfl rfl ⟨rfl,rfl,trivial⟩ ?_
 first | exact ⟨false,_,rfl,rfl,.inl ⟨rfl,rfl⟩⟩ | (obtain rfl:x=l.nodes.toNat:=(by omega); exact ⟨true,_,rfl,rfl,.inr ⟨rfl,hC.updSt hl hp (by omega) hW2.rt.size hR2,_,hC.upd hl hp ht (by omega) hW2 hR2⟩⟩)
 refine xmf rfl (xf 1 zaB rfl (xli 2 zac rfl rfl (TL.lss rfl rfl rfl rfl (fun q2=>?_) (fun q2=>?_))))
 refine xpH rfl (xmt rfl (xo rfl (xo rfl (xo rfl (xo rfl (xo rfl (xo rfl (xo rfl ?_))))))))
 refine xo rfl (xpT rfl (xmt rfl (xo rfl (xo rfl (xo rfl (xpT rfl (xmt rfl (xo rfl ?_))))))))
 refine xo rfl (xo rfl (xo rfl (xo rfl (xo rfl (xo rfl (xo rfl (xpT rfl (dT rfl ?_))))))))
 refine xaf rfl (dRR ?_)
 refine FQ.ret1 (v:=(.bool false)) (Bs:=[_,_]) [0,1] rfl rfl rfl ⟨rfl,rfl,trivial⟩ ?_
 first | exact ⟨false,_,rfl,rfl,.inl ⟨rfl,rfl⟩⟩ | (obtain rfl:x=l.nodes.toNat:=(by omega); exact ⟨true,_,rfl,rfl,.inr ⟨rfl,hC.updSt hl hp (by omega) hW2.rt.size hR2,_,hC.upd hl hp ht (by omega) hW2 hR2⟩⟩)
 refine xpF rfl (xmf rfl (xf 1 zaB rfl (xli 2 zac rfl rfl (xmp rfl (xN0 rfl (xf 0 zab rfl (xf 0 zaJ rfl (xli 0 zac rfl rfl ?_))))))))
 refine TL.geq rfl rfl rfl rfl (fun q3=>?_) (fun q3=>?_)
 refine xpH rfl (xmt rfl (xo rfl (xo rfl (xo rfl (xpT rfl (xmt rfl (xo rfl (xo rfl ?_))))))))
 refine xo rfl (xo rfl (xo rfl (xo rfl (xo rfl (xo rfl (xpT rfl (dT rfl (xaf rfl ?_))))))))
 refine dRR ?_
 refine FQ.ret1 (v:=(.bool false)) (Bs:=[_,_]) [0,1] rfl rfl rfl ⟨rfl,rfl,trivial⟩ ?_
 first | exact ⟨false,_,rfl,rfl,.inl ⟨rfl,rfl⟩⟩ | (obtain rfl:x=l.nodes.toNat:=(by omega); exact ⟨true,_,rfl,rfl,.inr ⟨rfl,hC.updSt hl hp (by omega) hW2.rt.size hR2,_,hC.upd hl hp ht (by omega) hW2 hR2⟩⟩)
 refine xpF rfl (xmf rfl (xf 2 zaA rfl (xli 2 zac rfl rfl (TL.lss rfl rfl rfl rfl (fun q4=>?_) (fun q4=>?_)))))
 refine xpH rfl (xmt rfl (xo rfl (xo rfl (xo rfl (xo rfl (xo rfl (xo rfl (xo rfl ?_))))))))
 refine xo rfl (xpT rfl (dT rfl (xaf rfl (dRR ?_))))
 refine FQ.ret1 (v:=(.bool false)) (Bs:=[_,_]) [0,1] rfl rfl rfl ⟨rfl,rfl,trivial⟩ ?_
 first | exact ⟨false,_,rfl,rfl,.inl ⟨rfl,rfl⟩⟩ | (obtain rfl:x=l.nodes.toNat:=(by omega); exact ⟨true,_,rfl,rfl,.inr ⟨rfl,hC.updSt hl hp (by omega) hW2.rt.size hR2,_,hC.upd hl hp ht (by omega) hW2 hR2⟩⟩)
 refine xpF rfl (xmf rfl (xf 2 zaA rfl (xli 2 zac rfl rfl (xmp rfl (xN0 rfl (xf 0 zab rfl (xf 0 zaJ rfl (xli 0 zac rfl rfl ?_))))))))
 refine TL.geq rfl rfl rfl rfl (fun q5=>?_) (fun q5=>?_)
 refine xpH rfl (dT rfl (xaf rfl (dRR ?_)))
 refine FQ.ret1 (v:=(.bool false)) (Bs:=[_,_]) [0,1] rfl rfl rfl ⟨rfl,rfl,trivial⟩ ?_
 first | exact ⟨false,_,rfl,rfl,.inl ⟨rfl,rfl⟩⟩ | (obtain rfl:x=l.nodes.toNat:=(by omega); exact ⟨true,_,rfl,rfl,.inr ⟨rfl,hC.updSt hl hp (by omega) hW2.rt.size hR2,_,hC.upd hl hp ht (by omega) hW2 hR2⟩⟩)
 refine xpF rfl (TL.done (TQ.then (TC.condF rfl (TC.skip (TQ.then (TC.seq (TC.drawT (.br3 [(0,true),(1,true),(2,true),(3,true),(4,true),(5,true),(6,true),(7,true),(8,true)] 9 10 11 (.br [] 10 11 (.fin [(11,false),(12,false),(13,false)]) (.fin [(10,false),(12,false),(13,false)])) (.br [] 9 11 (.fin [(11,false),(12,false),(13,false)]) (.fin [(9,false),(12,false),(13,false)])) (.br [] 9 10 (.fin [(10,false),(12,false),(13,false)]) (.fin [(9,false),(12,false),(13,false)]))) [0] fc_m (by kernel_rfl) (TT.br3 (xmp rfl ?_)))))))))
 refine xN0 rfl (xf 4 za2 rfl (xli 0 zac rfl rfl (TL.bld [.int .i64 0,.int .i64 0] [(.int _ _),(.int _ _)] [_,_] zdR znr ⟨rfl,rfl,trivial⟩ ⟨rfl,rfl⟩ rfl rfl (xmp rfl (xN0 rfl (xf 3 zea rfl (xlp 0 zhT rfl rfl (TL.both3 ?_ ?_ ?_))))))))
 refine TL.callD [] [] zbT ⟨rfl,trivial⟩ trivial zdw rfl rfl rfl rfl rfl (kL1 rfl trivial) (TL.tree (TT.br (TL.both ?_ ?_)))
 refine TL.alloc 3 (cs:=#[.int .i64 0,.int .i64 0]) zdR rfl rfl rfl (fun _=>(kL1 rfl trivial)) (fun bk3=>(TL.tree (TT.fin (TL.alloc 4 (cs:=#[.pointer none]) zdQ rfl rfl rfl (fun _=>(kL1 rfl trivial)) (fun bk4=>(TL.stW 3 2 [_,_] rfl rfl rfl rfl rfl rfl zar rfl rfl (kL1 rfl trivial) (TL.stW 4 1 [_] rfl rfl rfl rfl rfl rfl zak rfl rfl (kL1 rfl trivial) (dS (TC.drawT (.br [(0,true),(1,true),(2,true),(3,true),(4,true),(5,true),(6,true)] 7 8 (.fin [(8,false),(9,false)]) (.fin [(7,false),(9,false)])) [0,3,4] fc_m (by kernel_rfl) (TT.br (xmp rfl (xN0 rfl ?_))))))))))))
 refine xf 0 zab rfl (xL3 0 zaa rfl rfl (TL.ldA 4 1 [_] rfl rfl rfl zak rfl rfl (TL.miN (v:=(.agg _)) rfl zaI rfl rfl (xL2 3 zar rfl rfl (TL.both ?_ ?_)))))
 refine TL.callD [] [] (zci (p:=⟨1,k⟩)) ⟨rfl,rfl,rfl,trivial⟩ trivial zeh rfl rfl rfl rfl rfl (kL3 rfl rfl rfl trivial) (TL.tree (TT.fin (TL.alloc 5 (cs:=#[.int .i64 0,.int .i64 0,.int .i64 0,.nilIface,.int .i64 0,.int .i64 0,.int .i64 0,.int .i64 0,.int .i64 0,.nilIface]) zds rfl rfl rfl (fun _=>(kL3 rfl rfl rfl trivial)) (fun bk5=>(TL.stW 5 10 [_,_,_,_,_,_,_,_,_,_] rfl rfl rfl rfl rfl rfl zae rfl rfl (kL3 rfl rfl rfl trivial) (dA (xf 0 zaE rfl (xf 0 zan rfl (xf 6 zas rfl (xL4 5 zaP rfl rfl ?_))))))))))
 refine xf 1 zaB rfl (xli 2 zac rfl rfl (xf 2 zaA rfl (xli 2 zac rfl rfl (TL.callD [1] [1] (zcw zam hl) ⟨rfl,rfl,rfl,trivial⟩ ⟨rfl,trivial⟩ zdv rfl rfl rfl rfl rfl trivial (xmu rfl (xei rfl rfl (TL.ext (.bool _) rfl rfl rfl rfl (TL.ext (.bool _) rfl rfl rfl rfl ?_))))))))
 refine xai rfl (xab rfl (xab rfl (dA (xmp rfl (xL10 5 zae rfl rfl (TL.callD [0,1] [0,1] (zbM hl (hW1.edges hl)) ⟨rfl,rfl,trivial⟩ ⟨rfl,rfl,trivial⟩ zc4 rfl rfl rfl rfl rfl trivial (xai rfl (TL.done ?_))))))))
 refine TQ.then (TC.join (X:=M) [0,5,6] [0,2,3,4,5] (fun σ2=>[]) (fun σ2=>[(1,zaj ab mb 140 71 (σ2))]) (fun σ2=>∃ g2,Writ l pr ⟨1,k⟩ (parent l σ) (fun _=>k) σ2 g2∧Rch l ⟨1,k⟩ σ σ2) ?_ (fun σ2 hI=>?_))
 refine TC.block (sA (xf 0 zai rfl (xli 2 zac rfl rfl (TL.eql rfl rfl rfl rfl (fun q6=>?_) (fun q6=>?_)))))
 refine xmt rfl (xmb rfl (TL.cases rfl (fun q7=>?_) (fun q7=>?_)))
 refine xnt rfl (xpG rfl (xmf rfl (xo rfl (xo rfl (xpF rfl (xaf rfl (TL.done (TQ.then ?_))))))))
 refine TC.condF rfl (sA (xf 0 zai rfl (xli 2 zac rfl rfl (TL.eql rfl rfl rfl rfl (fun q8=>?_) (fun q8=>?_)))))
 refine xmt rfl (xmb rfl (TL.cases rfl (fun q9=>?_) (fun q9=>?_)))
 refine xpT rfl (xat rfl (TL.done (TQ.then (TC.condT rfl (TC.region (xL10 5 zae rfl rfl (xmi rfl ?_)))))))
 obtain ⟨t2,b2,o2,σ2,g2,hdel,hW2,hG2,hR2⟩:=hW1.delS hl hp ht ⟨by omega,by omega,by omega,by omega,by omega⟩ (by assumption) (by assumption)
 refine TL.callD [1] [1] (zau zam hl hdel) ⟨rfl,rfl,trivial⟩ ⟨rfl,trivial⟩ za7 rfl rfl rfl rfl rfl trivial (TL.done (TQ.inBlock (TQ.roundK (σ2) ⟨⟨g2,hW2,hR2⟩,Nat.zero_lt_one⟩ trivial ⟨rfl,trivial⟩ (kE3 rfl rfl rfl trivial) (kL5 rfl rfl rfl rfl rfl trivial))))
 refine xpG rfl (xaf rfl (TL.done (TQ.then (TC.condF rfl (sA (xaf rfl (dR (TQ.blockRet ?_))))))))
 refine TQ.thenRet ?_
 refine FQ.ret1 (v:=(.bool false)) (Bs:=[_,_]) [0,1] rfl rfl rfl ⟨rfl,rfl,trivial⟩ ?_
 first | exact ⟨false,_,rfl,rfl,.inl ⟨rfl,rfl⟩⟩ | (obtain rfl:x=l.nodes.toNat:=(by omega); exact ⟨true,_,rfl,rfl,.inr ⟨rfl,hC.updSt hl hp (by omega) hW2.rt.size hR2,_,hC.upd hl hp ht (by omega) hW2 hR2⟩⟩)
 refine xmf rfl (xo rfl (xpF rfl (xaf rfl (TL.done (TQ.then (TC.condF rfl (sA (xaf rfl ?_))))))))
 refine dR (TQ.blockRet (TQ.thenRet ?_))
 refine FQ.ret1 (v:=(.bool false)) (Bs:=[_,_]) [0,1] rfl rfl rfl ⟨rfl,rfl,trivial⟩ ?_
 first | exact ⟨false,_,rfl,rfl,.inl ⟨rfl,rfl⟩⟩ | (obtain rfl:x=l.nodes.toNat:=(by omega); exact ⟨true,_,rfl,rfl,.inr ⟨rfl,hC.updSt hl hp (by omega) hW2.rt.size hR2,_,hC.upd hl hp ht (by omega) hW2 hR2⟩⟩)
 refine xnf rfl (xpT rfl (xmt rfl (xmi rfl (TL.geq rfl rfl rfl rfl (fun q8=>?_) (fun q8=>?_)))))
 refine xpT rfl (xat rfl (TL.done (TQ.then (TC.condT rfl (TC.region (xL10 5 zae rfl rfl (xmi rfl (xf 1 zaB rfl ?_))))))))
 refine xli 2 zac rfl rfl (xf 2 zaA rfl (xli 2 zac rfl rfl ?_))
 obtain ⟨t2,σ2,g2,hins,hW2,hG2,hR2⟩:=hW1.insS hl hp ht ⟨by omega,by omega,by omega,by omega,by omega⟩ (by assumption) (by assumption) (by assumption)
 refine TL.callD [1] [1] (zbo zam hl hins) ⟨rfl,rfl,rfl,rfl,trivial⟩ ⟨rfl,trivial⟩ zeg rfl rfl rfl rfl rfl trivial (TL.done (TQ.inBlock (TQ.roundK (σ2) ⟨⟨g2,hW2,hR2⟩,Nat.zero_lt_one⟩ trivial ⟨rfl,trivial⟩ (kE3 rfl rfl rfl trivial) (kL5 rfl rfl rfl rfl rfl trivial))))
 refine xpG rfl (xaf rfl (TL.done (TQ.then (TC.condF rfl (sA (xf 0 zai rfl (xli 2 zac rfl rfl (TL.eql rfl rfl rfl rfl (fun q9=>?_) (fun q9=>?_)))))))))
 refine xmt rfl (xmb rfl (TL.cases rfl (fun q10=>?_) (fun q10=>?_)))
 refine xpT rfl (xat rfl (TL.done (TQ.then (TC.condT rfl (TC.region (xL10 5 zae rfl rfl (xmi rfl ?_)))))))
 obtain ⟨t2,b2,o2,σ2,g2,hdel,hW2,hG2,hR2⟩:=hW1.delS hl hp ht ⟨by omega,by omega,by omega,by omega,by omega⟩ (by assumption) (by assumption)
 refine TL.callD [1] [1] (zau zam hl hdel) ⟨rfl,rfl,trivial⟩ ⟨rfl,trivial⟩ za7 rfl rfl rfl rfl rfl trivial (TL.done (TQ.inBlock (TQ.roundK (σ2) ⟨⟨g2,hW2,hR2⟩,Nat.zero_lt_one⟩ trivial ⟨rfl,trivial⟩ (kE3 rfl rfl rfl trivial) (kL5 rfl rfl rfl rfl rfl trivial))))
 refine xpG rfl (xaf rfl (TL.done (TQ.then (TC.condF rfl (sA (xaf rfl (dR (TQ.blockRet ?_))))))))
 refine TQ.thenRet ?_
 refine FQ.ret1 (v:=(.bool false)) (Bs:=[_,_]) [0,1] rfl rfl rfl ⟨rfl,rfl,trivial⟩ ?_
 first | exact ⟨false,_,rfl,rfl,.inl ⟨rfl,rfl⟩⟩ | (obtain rfl:x=l.nodes.toNat:=(by omega); exact ⟨true,_,rfl,rfl,.inr ⟨rfl,hC.updSt hl hp (by omega) hW2.rt.size hR2,_,hC.upd hl hp ht (by omega) hW2 hR2⟩⟩)
 refine xmf rfl (xo rfl (xpF rfl (xaf rfl (TL.done (TQ.then (TC.condF rfl (sA (xaf rfl ?_))))))))
 refine dR (TQ.blockRet (TQ.thenRet ?_))
 refine FQ.ret1 (v:=(.bool false)) (Bs:=[_,_]) [0,1] rfl rfl rfl ⟨rfl,rfl,trivial⟩ ?_
 first | exact ⟨false,_,rfl,rfl,.inl ⟨rfl,rfl⟩⟩ | (obtain rfl:x=l.nodes.toNat:=(by omega); exact ⟨true,_,rfl,rfl,.inr ⟨rfl,hC.updSt hl hp (by omega) hW2.rt.size hR2,_,hC.upd hl hp ht (by omega) hW2 hR2⟩⟩)
 refine xmf rfl (xo rfl (xo rfl (xpF rfl (xmf rfl (xo rfl (xo rfl (xpF rfl (xaf rfl ?_))))))))
 refine TL.done (TQ.then (TC.condF rfl (sA (xf 0 zai rfl (xli 2 zac rfl rfl (TL.eql rfl rfl rfl rfl (fun q7=>?_) (fun q7=>?_)))))))
 refine xmt rfl (xmb rfl (TL.cases rfl (fun q8=>?_) (fun q8=>?_)))
 refine xpT rfl (xat rfl (TL.done (TQ.then (TC.condT rfl (TC.region (xL10 5 zae rfl rfl (xmi rfl ?_)))))))
 obtain ⟨t2,b2,o2,σ2,g2,hdel,hW2,hG2,hR2⟩:=hW1.delS hl hp ht ⟨by omega,by omega,by omega,by omega,by omega⟩ (by assumption) (by assumption)
 refine TL.callD [1] [1] (zau zam hl hdel) ⟨rfl,rfl,trivial⟩ ⟨rfl,trivial⟩ za7 rfl rfl rfl rfl rfl trivial (TL.done (TQ.inBlock (TQ.roundK (σ2) ⟨⟨g2,hW2,hR2⟩,Nat.zero_lt_one⟩ trivial ⟨rfl,trivial⟩ (kE3 rfl rfl rfl trivial) (kL5 rfl rfl rfl rfl rfl trivial))))
 refine xpG rfl (xaf rfl (TL.done (TQ.then (TC.condF rfl (sA (xaf rfl (dR (TQ.blockRet ?_))))))))
 refine TQ.thenRet ?_
 refine FQ.ret1 (v:=(.bool false)) (Bs:=[_,_]) [0,1] rfl rfl rfl ⟨rfl,rfl,trivial⟩ ?_
 first | exact ⟨false,_,rfl,rfl,.inl ⟨rfl,rfl⟩⟩ | (obtain rfl:x=l.nodes.toNat:=(by omega); exact ⟨true,_,rfl,rfl,.inr ⟨rfl,hC.updSt hl hp (by omega) hW2.rt.size hR2,_,hC.upd hl hp ht (by omega) hW2 hR2⟩⟩)
 refine xmf rfl (xo rfl (xpF rfl (xaf rfl (TL.done (TQ.then (TC.condF rfl (sA (xaf rfl ?_))))))))
 refine dR (TQ.blockRet (TQ.thenRet ?_))
 refine FQ.ret1 (v:=(.bool false)) (Bs:=[_,_]) [0,1] rfl rfl rfl ⟨rfl,rfl,trivial⟩ ?_
 first | exact ⟨false,_,rfl,rfl,.inl ⟨rfl,rfl⟩⟩ | (obtain rfl:x=l.nodes.toNat:=(by omega); exact ⟨true,_,rfl,rfl,.inr ⟨rfl,hC.updSt hl hp (by omega) hW2.rt.size hR2,_,hC.upd hl hp ht (by omega) hW2 hR2⟩⟩)
 obtain ⟨g2,hW2,hR2⟩:=hI
 refine TC.sub (env':=[(0,_),(5,_),(6,_)]) (L':=[(1,_),(0,_),(2,_),(3,_),(4,_),(5,_)]) ⟨rfl,rfl,rfl,trivial⟩ ⟨rfl,rfl,rfl,rfl,rfl,rfl,trivial⟩ (sB (xai rfl (dK (TC.loopK (X:=Nat) [0,5,6] [0,2,3,4,5] (fun x=>[(12,.int .i64 ((x+1:Nat):Int))]) (fun x=>[(1,zaj ab mb 140 71 (verN l ⟨1,k⟩ x σ2))]) (fun x=>(x:Int)≤l.nodes) (fun x=>l.nodes.toNat - x) (0) (by omega) ⟨rfl,trivial⟩ ⟨rfl,trivial⟩ (fun x hI=>(TC.sub (env':=[(12,_),(0,_),(5,_),(6,_)]) (L':=[(1,_),(0,_),(2,_),(3,_),(4,_),(5,_)]) ⟨rfl,rfl,rfl,rfl,trivial⟩ ⟨rfl,rfl,rfl,rfl,rfl,rfl,trivial⟩ (sB (xmi rfl (xmp rfl ?_)))))))))
 refine xN0 rfl (xf 0 zab rfl (xL3 0 zaa rfl rfl (TL.callD [] [] (zaV hl) ⟨rfl,trivial⟩ trivial zbE rfl rfl rfl rfl rfl trivial (TL.leq rfl rfl rfl rfl (fun q6=>?_) (fun q6=>?_)))))
 refine TL.done (TQ.then (TC.condT rfl (TC.skip (TQ.then (TC.seq (TC.block (sA (xmp rfl ?_))))))))
 refine xN0 rfl (xf 0 zab rfl (xL3 0 zaa rfl rfl (xmi rfl (TL.callD [] [] (zbj hl) ⟨rfl,rfl,trivial⟩ trivial zb1 rfl rfl rfl rfl rfl trivial (xmu rfl (TL.ext (.agg _) rfl rfl rfl rfl (TL.ext (.bool _) rfl rfl rfl rfl (TL.alloc 6 (cs:=#[.bool false,.int .i64 0,.int .i64 0,.int .i64 0,.int .i64 0]) zbw rfl rfl rfl (fun _=>trivial) (fun bk6=>?_)))))))))
 refine TL.stW 6 5 [_,_,_,_,_] rfl rfl rfl rfl rfl rfl zaQ rfl rfl trivial (xab rfl (dA (xf 1 zaS rfl (xli 6 zac rfl rfl (TL.eql rfl rfl rfl rfl (fun q7=>?_) (fun q7=>?_))))))
 refine dT rfl (xmp rfl (xN0 rfl (xf 0 zab rfl (xL3 0 zaa rfl rfl (xmi rfl (TL.callD [] [] (zay hl) ⟨rfl,rfl,rfl,trivial⟩ trivial zaW rfl rfl rfl rfl rfl trivial (xai rfl (TL.done ?_))))))))
 refine TQ.then (TC.draw [(0,true),(1,true),(2,true),(3,true),(4,true),(5,true),(6,true),(7,false),(8,true),(9,false)] [3,4] fc_m (by kernel_rfl) (xL2 3 zar rfl rfl (TL.ldA 4 1 [_] rfl rfl rfl zak rfl rfl (TL.miN (v:=(.agg _)) rfl zaI rfl rfl (xmi rfl (TL.ldA 4 1 [_] rfl rfl rfl zak rfl rfl (TL.miN (v:=(.agg _)) rfl zaI rfl rfl (xmi rfl ?_))))))))
 refine TL.callD [1] [1] (zdN zam) ⟨rfl,rfl,trivial⟩ ⟨rfl,trivial⟩ zcN rfl rfl rfl rfl rfl (kL2 rfl rfl trivial) (TL.add _ rfl rfl (rfl) rfl rfl (TL.callD [1] [1] (zb2 (p:=⟨1,k⟩) zam) ⟨rfl,rfl,rfl,rfl,trivial⟩ ⟨rfl,trivial⟩ zcO rfl rfl rfl rfl rfl (kL2 rfl rfl trivial) (dI (xmi rfl (TL.add (((x+2:Nat):Int)) rfl rfl (wrN (by omega)) rfl rfl (xai rfl (TL.done (TQ.roundK (x+1) ⟨(by omega),(by omega)⟩ ⟨rfl,trivial⟩ ⟨congrArg (fun z=>some (zaj ab mb 140 71 (z))) (by first | exact zbQ (by assumption) | exact zbR (by assumption)),trivial⟩ (kE3 rfl rfl rfl trivial) (kL5 rfl rfl rfl rfl rfl trivial)))))))))
 refine TL.done (TQ.then (TC.condF rfl (TC.skip (TQ.inBlock (TQ.then (TC.region (xmi rfl (TL.add (((x+2:Nat):Int)) rfl rfl (wrN (by omega)) rfl rfl ?_))))))))
 refine xai rfl (TL.done (TQ.roundK (x+1) ⟨(by omega),(by omega)⟩ ⟨rfl,trivial⟩ ⟨congrArg (fun z=>some (zaj ab mb 140 71 (z))) (by first | exact zbQ (by assumption) | exact zbR (by assumption)),trivial⟩ (kE3 rfl rfl rfl trivial) (kL5 rfl rfl rfl rfl rfl trivial)))
 refine dE rfl (sA (xat rfl (dR ?_)))
 refine FQ.ret1 (v:=(.bool true)) (Bs:=[_,_]) [0,1] rfl rfl rfl ⟨rfl,rfl,trivial⟩ ?_
 first | exact ⟨false,_,rfl,rfl,.inl ⟨rfl,rfl⟩⟩ | (obtain rfl:x=l.nodes.toNat:=(by omega); exact ⟨true,_,rfl,rfl,.inr ⟨rfl,hC.updSt hl hp (by omega) hW2.rt.size hR2,_,hC.upd hl hp ht (by omega) hW2 hR2⟩⟩)
 refine TL.alloc 7 (cs:=#[.int .i64 0,.int .i64 0,.int .i64 0,.nilIface,.int .i64 0,.int .i64 0,.int .i64 0,.int .i64 0,.int .i64 0,.nilIface]) zds rfl rfl rfl (fun _=>(kL3 rfl rfl rfl trivial)) (fun bk7=>(TL.tree (TT.fin (TL.callD [] [] (zci (p:=⟨1,k⟩)) ⟨rfl,rfl,rfl,trivial⟩ trivial zeh rfl rfl rfl rfl rfl (kL3 rfl rfl rfl trivial) (TL.stW 7 10 [_,_,_,_,_,_,_,_,_,_] rfl rfl rfl rfl rfl rfl zae rfl rfl (kL3 rfl rfl rfl trivial) (dA (xf 0 zaE rfl (xf 0 zan rfl (xf 6 zas rfl (xL4 7 zaP rfl rfl ?_))))))))))
 refine xf 1 zaB rfl (xli 2 zac rfl rfl (xf 2 zaA rfl (xli 2 zac rfl rfl (TL.callD [1] [1] (zcw zam hl) ⟨rfl,rfl,rfl,trivial⟩ ⟨rfl,trivial⟩ zdv rfl rfl rfl rfl rfl trivial (xmu rfl (xei rfl rfl (TL.ext (.bool _) rfl rfl rfl rfl (TL.ext (.bool _) rfl rfl rfl rfl ?_))))))))
 refine xai rfl (xab rfl (xab rfl (dA (xmp rfl (xL10 7 zae rfl rfl (TL.callD [0,1] [0,1] (zbM hl (hW1.edges hl)) ⟨rfl,rfl,trivial⟩ ⟨rfl,rfl,trivial⟩ zc4 rfl rfl rfl rfl rfl trivial (xai rfl (TL.done ?_))))))))
 refine TQ.then (TC.join (X:=M) [0,5,6] [0,2,3,4,7] (fun σ2=>[]) (fun σ2=>[(1,zaj ab mb 140 71 (σ2))]) (fun σ2=>∃ g2,Writ l pr ⟨1,k⟩ (parent l σ) (fun _=>k) σ2 g2∧Rch l ⟨1,k⟩ σ σ2) ?_ (fun σ2 hI=>?_))
 refine TC.block (sA (xf 0 zai rfl (xli 2 zac rfl rfl (TL.eql rfl rfl rfl rfl (fun q6=>?_) (fun q6=>?_)))))
 refine xmt rfl (xmb rfl (TL.cases rfl (fun q7=>?_) (fun q7=>?_)))
 refine xnt rfl (xpG rfl (xmf rfl (xo rfl (xo rfl (xpF rfl (xaf rfl (TL.done (TQ.then ?_))))))))
 refine TC.condF rfl (sA (xf 0 zai rfl (xli 2 zac rfl rfl (TL.eql rfl rfl rfl rfl (fun q8=>?_) (fun q8=>?_)))))
 refine xmt rfl (xmb rfl (TL.cases rfl (fun q9=>?_) (fun q9=>?_)))
 refine xpT rfl (xat rfl (TL.done (TQ.then (TC.condT rfl (TC.region (xL10 7 zae rfl rfl (xmi rfl ?_)))))))
 obtain ⟨t2,b2,o2,σ2,g2,hdel,hW2,hG2,hR2⟩:=hW1.delS hl hp ht ⟨by omega,by omega,by omega,by omega,by omega⟩ (by assumption) (by assumption)
 refine TL.callD [1] [1] (zau zam hl hdel) ⟨rfl,rfl,trivial⟩ ⟨rfl,trivial⟩ za7 rfl rfl rfl rfl rfl trivial (TL.done (TQ.inBlock (TQ.roundK (σ2) ⟨⟨g2,hW2,hR2⟩,Nat.zero_lt_one⟩ trivial ⟨rfl,trivial⟩ (kE3 rfl rfl rfl trivial) (kL5 rfl rfl rfl rfl rfl trivial))))
 refine xpG rfl (xaf rfl (TL.done (TQ.then (TC.condF rfl (sA (xaf rfl (dR (TQ.blockRet ?_))))))))
 refine TQ.thenRet ?_
 refine FQ.ret1 (v:=(.bool false)) (Bs:=[_,_]) [0,1] rfl rfl rfl ⟨rfl,rfl,trivial⟩ ?_
 first | exact ⟨false,_,rfl,rfl,.inl ⟨rfl,rfl⟩⟩ | (obtain rfl:x=l.nodes.toNat:=(by omega); exact ⟨true,_,rfl,rfl,.inr ⟨rfl,hC.updSt hl hp (by omega) hW2.rt.size hR2,_,hC.upd hl hp ht (by omega) hW2 hR2⟩⟩)
 refine xmf rfl (xo rfl (xpF rfl (xaf rfl (TL.done (TQ.then (TC.condF rfl (sA (xaf rfl ?_))))))))
 refine dR (TQ.blockRet (TQ.thenRet ?_))
 refine FQ.ret1 (v:=(.bool false)) (Bs:=[_,_]) [0,1] rfl rfl rfl ⟨rfl,rfl,trivial⟩ ?_
 first | exact ⟨false,_,rfl,rfl,.inl ⟨rfl,rfl⟩⟩ | (obtain rfl:x=l.nodes.toNat:=(by omega); exact ⟨true,_,rfl,rfl,.inr ⟨rfl,hC.updSt hl hp (by omega) hW2.rt.size hR2,_,hC.upd hl hp ht (by omega) hW2 hR2⟩⟩)
 refine xnf rfl (xpT rfl (xmt rfl (xmi rfl (TL.geq rfl rfl rfl rfl (fun q8=>?_) (fun q8=>?_)))))
 refine xpT rfl (xat rfl (TL.done (TQ.then (TC.condT rfl (TC.region (xL10 7 zae rfl rfl (xmi rfl (xf 1 zaB rfl ?_))))))))
 refine xli 2 zac rfl rfl (xf 2 zaA rfl (xli 2 zac rfl rfl ?_))
 obtain ⟨t2,σ2,g2,hins,hW2,hG2,hR2⟩:=hW1.insS hl hp ht ⟨by omega,by omega,by omega,by omega,by omega⟩ (by assumption) (by assumption) (by assumption)
 refine TL.callD [1] [1] (zbo zam hl hins) ⟨rfl,rfl,rfl,rfl,trivial⟩ ⟨rfl,trivial⟩ zeg rfl rfl rfl rfl rfl trivial (TL.done (TQ.inBlock (TQ.roundK (σ2) ⟨⟨g2,hW2,hR2⟩,Nat.zero_lt_one⟩ trivial ⟨rfl,trivial⟩ (kE3 rfl rfl rfl trivial) (kL5 rfl rfl rfl rfl rfl trivial))))
 refine xpG rfl (xaf rfl (TL.done (TQ.then (TC.condF rfl (sA (xf 0 zai rfl (xli 2 zac rfl rfl (TL.eql rfl rfl rfl rfl (fun q9=>?_) (fun q9=>?_)))))))))
 refine xmt rfl (xmb rfl (TL.cases rfl (fun q10=>?_) (fun q10=>?_)))
 refine xpT rfl (xat rfl (TL.done (TQ.then (TC.condT rfl (TC.region (xL10 7 zae rfl rfl (xmi rfl ?_)))))))
 obtain ⟨t2,b2,o2,σ2,g2,hdel,hW2,hG2,hR2⟩:=hW1.delS hl hp ht ⟨by omega,by omega,by omega,by omega,by omega⟩ (by assumption) (by assumption)
 refine TL.callD [1] [1] (zau zam hl hdel) ⟨rfl,rfl,trivial⟩ ⟨rfl,trivial⟩ za7 rfl rfl rfl rfl rfl trivial (TL.done (TQ.inBlock (TQ.roundK (σ2) ⟨⟨g2,hW2,hR2⟩,Nat.zero_lt_one⟩ trivial ⟨rfl,trivial⟩ (kE3 rfl rfl rfl trivial) (kL5 rfl rfl rfl rfl rfl trivial))))
 refine xpG rfl (xaf rfl (TL.done (TQ.then (TC.condF rfl (sA (xaf rfl (dR (TQ.blockRet ?_))))))))
 refine TQ.thenRet ?_
 refine FQ.ret1 (v:=(.bool false)) (Bs:=[_,_]) [0,1] rfl rfl rfl ⟨rfl,rfl,trivial⟩ ?_
 first | exact ⟨false,_,rfl,rfl,.inl ⟨rfl,rfl⟩⟩ | (obtain rfl:x=l.nodes.toNat:=(by omega); exact ⟨true,_,rfl,rfl,.inr ⟨rfl,hC.updSt hl hp (by omega) hW2.rt.size hR2,_,hC.upd hl hp ht (by omega) hW2 hR2⟩⟩)
 refine xmf rfl (xo rfl (xpF rfl (xaf rfl (TL.done (TQ.then (TC.condF rfl (sA (xaf rfl ?_))))))))
 refine dR (TQ.blockRet (TQ.thenRet ?_))
 refine FQ.ret1 (v:=(.bool false)) (Bs:=[_,_]) [0,1] rfl rfl rfl ⟨rfl,rfl,trivial⟩ ?_
 first | exact ⟨false,_,rfl,rfl,.inl ⟨rfl,rfl⟩⟩ | (obtain rfl:x=l.nodes.toNat:=(by omega); exact ⟨true,_,rfl,rfl,.inr ⟨rfl,hC.updSt hl hp (by omega) hW2.rt.size hR2,_,hC.upd hl hp ht (by omega) hW2 hR2⟩⟩)
 refine xmf rfl (xo rfl (xo rfl (xpF rfl (xmf rfl (xo rfl (xo rfl (xpF rfl (xaf rfl ?_))))))))
 refine TL.done (TQ.then (TC.condF rfl (sA (xf 0 zai rfl (xli 2 zac rfl rfl (TL.eql rfl rfl rfl rfl (fun q7=>?_) (fun q7=>?_)))))))
 refine xmt rfl (xmb rfl (TL.cases rfl (fun q8=>?_) (fun q8=>?_)))
 refine xpT rfl (xat rfl (TL.done (TQ.then (TC.condT rfl (TC.region (xL10 7 zae rfl rfl (xmi rfl ?_)))))))
 obtain ⟨t2,b2,o2,σ2,g2,hdel,hW2,hG2,hR2⟩:=hW1.delS hl hp ht ⟨by omega,by omega,by omega,by omega,by omega⟩ (by assumption) (by assumption)
 refine TL.callD [1] [1] (zau zam hl hdel) ⟨rfl,rfl,trivial⟩ ⟨rfl,trivial⟩ za7 rfl rfl rfl rfl rfl trivial (TL.done (TQ.inBlock (TQ.roundK (σ2) ⟨⟨g2,hW2,hR2⟩,Nat.zero_lt_one⟩ trivial ⟨rfl,trivial⟩ (kE3 rfl rfl rfl trivial) (kL5 rfl rfl rfl rfl rfl trivial))))
 refine xpG rfl (xaf rfl (TL.done (TQ.then (TC.condF rfl (sA (xaf rfl (dR (TQ.blockRet ?_))))))))
 refine TQ.thenRet ?_
 refine FQ.ret1 (v:=(.bool false)) (Bs:=[_,_]) [0,1] rfl rfl rfl ⟨rfl,rfl,trivial⟩ ?_
 first | exact ⟨false,_,rfl,rfl,.inl ⟨rfl,rfl⟩⟩ | (obtain rfl:x=l.nodes.toNat:=(by omega); exact ⟨true,_,rfl,rfl,.inr ⟨rfl,hC.updSt hl hp (by omega) hW2.rt.size hR2,_,hC.upd hl hp ht (by omega) hW2 hR2⟩⟩)
 refine xmf rfl (xo rfl (xpF rfl (xaf rfl (TL.done (TQ.then (TC.condF rfl (sA (xaf rfl ?_))))))))
 refine dR (TQ.blockRet (TQ.thenRet ?_))
 refine FQ.ret1 (v:=(.bool false)) (Bs:=[_,_]) [0,1] rfl rfl rfl ⟨rfl,rfl,trivial⟩ ?_
 first | exact ⟨false,_,rfl,rfl,.inl ⟨rfl,rfl⟩⟩ | (obtain rfl:x=l.nodes.toNat:=(by omega); exact ⟨true,_,rfl,rfl,.inr ⟨rfl,hC.updSt hl hp (by omega) hW2.rt.size hR2,_,hC.upd hl hp ht (by omega) hW2 hR2⟩⟩)
 obtain ⟨g2,hW2,hR2⟩:=hI
 refine TC.sub (env':=[(0,_),(5,_),(6,_)]) (L':=[(1,_),(0,_),(2,_),(3,_),(4,_),(7,_)]) ⟨rfl,rfl,rfl,trivial⟩ ⟨rfl,rfl,rfl,rfl,rfl,rfl,trivial⟩ (sB (xai rfl (dK (TC.loopK (X:=Nat) [0,5,6] [0,2,3,4,7] (fun x=>[(12,.int .i64 ((x+1:Nat):Int))]) (fun x=>[(1,zaj ab mb 140 71 (verN l ⟨1,k⟩ x σ2))]) (fun x=>(x:Int)≤l.nodes) (fun x=>l.nodes.toNat - x) (0) (by omega) ⟨rfl,trivial⟩ ⟨rfl,trivial⟩ (fun x hI=>(TC.sub (env':=[(12,_),(0,_),(5,_),(6,_)]) (L':=[(1,_),(0,_),(2,_),(3,_),(4,_),(7,_)]) ⟨rfl,rfl,rfl,rfl,trivial⟩ ⟨rfl,rfl,rfl,rfl,rfl,rfl,trivial⟩ (sB (xmi rfl (xmp rfl ?_)))))))))
 refine xN0 rfl (xf 0 zab rfl (xL3 0 zaa rfl rfl (TL.callD [] [] (zaV hl) ⟨rfl,trivial⟩ trivial zbE rfl rfl rfl rfl rfl trivial (TL.leq rfl rfl rfl rfl (fun q6=>?_) (fun q6=>?_)))))
 refine TL.done (TQ.then (TC.condT rfl (TC.skip (TQ.then (TC.seq (TC.block (sA (xmp rfl ?_))))))))
 refine xN0 rfl (xf 0 zab rfl (xL3 0 zaa rfl rfl (xmi rfl (TL.callD [] [] (zbj hl) ⟨rfl,rfl,trivial⟩ trivial zb1 rfl rfl rfl rfl rfl trivial (xmu rfl (TL.ext (.agg _) rfl rfl rfl rfl (TL.ext (.bool _) rfl rfl rfl rfl (TL.alloc 8 (cs:=#[.bool false,.int .i64 0,.int .i64 0,.int .i64 0,.int .i64 0]) zbw rfl rfl rfl (fun _=>trivial) (fun bk8=>?_)))))))))
 refine TL.stW 8 5 [_,_,_,_,_] rfl rfl rfl rfl rfl rfl zaQ rfl rfl trivial (xab rfl (dA (xf 1 zaS rfl (xli 8 zac rfl rfl (TL.eql rfl rfl rfl rfl (fun q7=>?_) (fun q7=>?_))))))
 refine dT rfl (xmp rfl (xN0 rfl (xf 0 zab rfl (xL3 0 zaa rfl rfl (xmi rfl (TL.callD [] [] (zay hl) ⟨rfl,rfl,rfl,trivial⟩ trivial zaW rfl rfl rfl rfl rfl trivial (xai rfl (TL.done ?_))))))))
 refine TQ.then (TC.draw [(0,true),(1,true),(2,true),(3,true),(4,true),(5,true),(6,true),(7,false),(8,true),(9,false)] [3,4] fc_m (by kernel_rfl) (xL2 3 zar rfl rfl (TL.ldA 4 1 [_] rfl rfl rfl zak rfl rfl (TL.miN (v:=(.agg _)) rfl zaI rfl rfl (xmi rfl (TL.ldA 4 1 [_] rfl rfl rfl zak rfl rfl (TL.miN (v:=(.agg _)) rfl zaI rfl rfl (xmi rfl ?_))))))))
 refine TL.callD [1] [1] (zdN zam) ⟨rfl,rfl,trivial⟩ ⟨rfl,trivial⟩ zcN rfl rfl rfl rfl rfl (kL2 rfl rfl trivial) (TL.add _ rfl rfl (rfl) rfl rfl (TL.callD [1] [1] (zb2 (p:=⟨1,k⟩) zam) ⟨rfl,rfl,rfl,rfl,trivial⟩ ⟨rfl,trivial⟩ zcO rfl rfl rfl rfl rfl (kL2 rfl rfl trivial) (dI (xmi rfl (TL.add (((x+2:Nat):Int)) rfl rfl (wrN (by omega)) rfl rfl (xai rfl (TL.done (TQ.roundK (x+1) ⟨(by omega),(by omega)⟩ ⟨rfl,trivial⟩ ⟨congrArg (fun z=>some (zaj ab mb 140 71 (z))) (by first | exact zbQ (by assumption) | exact zbR (by assumption)),trivial⟩ (kE3 rfl rfl rfl trivial) (kL5 rfl rfl rfl rfl rfl trivial)))))))))
 refine TL.done (TQ.then (TC.condF rfl (TC.skip (TQ.inBlock (TQ.then (TC.region (xmi rfl (TL.add (((x+2:Nat):Int)) rfl rfl (wrN (by omega)) rfl rfl ?_))))))))
 refine xai rfl (TL.done (TQ.roundK (x+1) ⟨(by omega),(by omega)⟩ ⟨rfl,trivial⟩ ⟨congrArg (fun z=>some (zaj ab mb 140 71 (z))) (by first | exact zbQ (by assumption) | exact zbR (by assumption)),trivial⟩ (kE3 rfl rfl rfl trivial) (kL5 rfl rfl rfl rfl rfl trivial)))
 refine dE rfl (sA (xat rfl (dR ?_)))
 refine FQ.ret1 (v:=(.bool true)) (Bs:=[_,_]) [0,1] rfl rfl rfl ⟨rfl,rfl,trivial⟩ ?_
 first | exact ⟨false,_,rfl,rfl,.inl ⟨rfl,rfl⟩⟩ | (obtain rfl:x=l.nodes.toNat:=(by omega); exact ⟨true,_,rfl,rfl,.inr ⟨rfl,hC.updSt hl hp (by omega) hW2.rt.size hR2,_,hC.upd hl hp ht (by omega) hW2 hR2⟩⟩)
 refine TL.alloc 9 (cs:=#[.pointer none]) zdQ rfl rfl rfl (fun _=>(kL1 rfl trivial)) (fun bk9=>(TL.tree (TT.fin (TL.alloc 10 (cs:=#[.int .i64 0,.int .i64 0]) zdR rfl rfl rfl (fun _=>(kL1 rfl trivial)) (fun bk10=>(TL.stW 10 2 [_,_] rfl rfl rfl rfl rfl rfl zar rfl rfl (kL1 rfl trivial) (TL.stW 9 1 [_] rfl rfl rfl rfl rfl rfl zak rfl rfl (kL1 rfl trivial) (dS (TC.drawT (.br [(0,true),(1,true),(2,true),(3,true),(4,true),(5,true),(6,true)] 7 8 (.fin [(8,false),(9,false)]) (.fin [(7,false),(9,false)])) [0,9,10] fc_m (by kernel_rfl) (TT.br (xmp rfl (xN0 rfl ?_))))))))))))
 refine xf 0 zab rfl (xL3 0 zaa rfl rfl (TL.ldA 9 1 [_] rfl rfl rfl zak rfl rfl (TL.miN (v:=(.agg _)) rfl zaI rfl rfl (xL2 10 zar rfl rfl (TL.both ?_ ?_)))))
 refine TL.callD [] [] (zci (p:=⟨1,k⟩)) ⟨rfl,rfl,rfl,trivial⟩ trivial zeh rfl rfl rfl rfl rfl (kL3 rfl rfl rfl trivial) (TL.tree (TT.fin (TL.alloc 11 (cs:=#[.int .i64 0,.int .i64 0,.int .i64 0,.nilIface,.int .i64 0,.int .i64 0,.int .i64 0,.int .i64 0,.int .i64 0,.nilIface]) zds rfl rfl rfl (fun _=>(kL3 rfl rfl rfl trivial)) (fun bk11=>(TL.stW 11 10 [_,_,_,_,_,_,_,_,_,_] rfl rfl rfl rfl rfl rfl zae rfl rfl (kL3 rfl rfl rfl trivial) (dA (xf 0 zaE rfl (xf 0 zan rfl (xf 6 zas rfl (xL4 11 zaP rfl rfl ?_))))))))))
 refine xf 1 zaB rfl (xli 2 zac rfl rfl (xf 2 zaA rfl (xli 2 zac rfl rfl (TL.callD [1] [1] (zcw zam hl) ⟨rfl,rfl,rfl,trivial⟩ ⟨rfl,trivial⟩ zdv rfl rfl rfl rfl rfl trivial (xmu rfl (xei rfl rfl (TL.ext (.bool _) rfl rfl rfl rfl (TL.ext (.bool _) rfl rfl rfl rfl ?_))))))))
 refine xai rfl (xab rfl (xab rfl (dA (xmp rfl (xL10 11 zae rfl rfl (TL.callD [0,1] [0,1] (zbM hl (hW1.edges hl)) ⟨rfl,rfl,trivial⟩ ⟨rfl,rfl,trivial⟩ zc4 rfl rfl rfl rfl rfl trivial (xai rfl (TL.done ?_))))))))
 refine TQ.then (TC.join (X:=M) [0,5,6] [0,2,9,10,11] (fun σ2=>[]) (fun σ2=>[(1,zaj ab mb 140 71 (σ2))]) (fun σ2=>∃ g2,Writ l pr ⟨1,k⟩ (parent l σ) (fun _=>k) σ2 g2∧Rch l ⟨1,k⟩ σ σ2) ?_ (fun σ2 hI=>?_))
 refine TC.block (sA (xf 0 zai rfl (xli 2 zac rfl rfl (TL.eql rfl rfl rfl rfl (fun q6=>?_) (fun q6=>?_)))))
 refine xmt rfl (xmb rfl (TL.cases rfl (fun q7=>?_) (fun q7=>?_)))
 refine xnt rfl (xpG rfl (xmf rfl (xo rfl (xo rfl (xpF rfl (xaf rfl (TL.done (TQ.then ?_))))))))
 refine TC.condF rfl (sA (xf 0 zai rfl (xli 2 zac rfl rfl (TL.eql rfl rfl rfl rfl (fun q8=>?_) (fun q8=>?_)))))
 refine xmt rfl (xmb rfl (TL.cases rfl (fun q9=>?_) (fun q9=>?_)))
 refine xpT rfl (xat rfl (TL.done (TQ.then (TC.condT rfl (TC.region (xL10 11 zae rfl rfl (xmi rfl ?_)))))))
 obtain ⟨t2,b2,o2,σ2,g2,hdel,hW2,hG2,hR2⟩:=hW1.delS hl hp ht ⟨by omega,by omega,by omega,by omega,by omega⟩ (by assumption) (by assumption)
 refine TL.callD [1] [1] (zau zam hl hdel) ⟨rfl,rfl,trivial⟩ ⟨rfl,trivial⟩ za7 rfl rfl rfl rfl rfl trivial (TL.done (TQ.inBlock (TQ.roundK (σ2) ⟨⟨g2,hW2,hR2⟩,Nat.zero_lt_one⟩ trivial ⟨rfl,trivial⟩ (kE3 rfl rfl rfl trivial) (kL5 rfl rfl rfl rfl rfl trivial))))
 refine xpG rfl (xaf rfl (TL.done (TQ.then (TC.condF rfl (sA (xaf rfl (dR (TQ.blockRet ?_))))))))
 refine TQ.thenRet ?_
 refine FQ.ret1 (v:=(.bool false)) (Bs:=[_,_]) [0,1] rfl rfl rfl ⟨rfl,rfl,trivial⟩ ?_
 first | exact ⟨false,_,rfl,rfl,.inl ⟨rfl,rfl⟩⟩ | (obtain rfl:x=l.nodes.toNat:=(by omega); exact ⟨true,_,rfl,rfl,.inr ⟨rfl,hC.updSt hl hp (by omega) hW2.rt.size hR2,_,hC.upd hl hp ht (by omega) hW2 hR2⟩⟩)
 refine xmf rfl (xo rfl (xpF rfl (xaf rfl (TL.done (TQ.then (TC.condF rfl (sA (xaf rfl ?_))))))))
 refine dR (TQ.blockRet (TQ.thenRet ?_))
 refine FQ.ret1 (v:=(.bool false)) (Bs:=[_,_]) [0,1] rfl rfl rfl ⟨rfl,rfl,trivial⟩ ?_
 first | exact ⟨false,_,rfl,rfl,.inl ⟨rfl,rfl⟩⟩ | (obtain rfl:x=l.nodes.toNat:=(by omega); exact ⟨true,_,rfl,rfl,.inr ⟨rfl,hC.updSt hl hp (by omega) hW2.rt.size hR2,_,hC.upd hl hp ht (by omega) hW2 hR2⟩⟩)
 refine xnf rfl (xpT rfl (xmt rfl (xmi rfl (TL.geq rfl rfl rfl rfl (fun q8=>?_) (fun q8=>?_)))))
 refine xpT rfl (xat rfl (TL.done (TQ.then (TC.condT rfl (TC.region (xL10 11 zae rfl rfl (xmi rfl (xf 1 zaB rfl ?_))))))))
 refine xli 2 zac rfl rfl (xf 2 zaA rfl (xli 2 zac rfl rfl ?_))
 obtain ⟨t2,σ2,g2,hins,hW2,hG2,hR2⟩:=hW1.insS hl hp ht ⟨by omega,by omega,by omega,by omega,by omega⟩ (by assumption) (by assumption) (by assumption)
 refine TL.callD [1] [1] (zbo zam hl hins) ⟨rfl,rfl,rfl,rfl,trivial⟩ ⟨rfl,trivial⟩ zeg rfl rfl rfl rfl rfl trivial (TL.done (TQ.inBlock (TQ.roundK (σ2) ⟨⟨g2,hW2,hR2⟩,Nat.zero_lt_one⟩ trivial ⟨rfl,trivial⟩ (kE3 rfl rfl rfl trivial) (kL5 rfl rfl rfl rfl rfl trivial))))
 refine xpG rfl (xaf rfl (TL.done (TQ.then (TC.condF rfl (sA (xf 0 zai rfl (xli 2 zac rfl rfl (TL.eql rfl rfl rfl rfl (fun q9=>?_) (fun q9=>?_)))))))))
 refine xmt rfl (xmb rfl (TL.cases rfl (fun q10=>?_) (fun q10=>?_)))
 refine xpT rfl (xat rfl (TL.done (TQ.then (TC.condT rfl (TC.region (xL10 11 zae rfl rfl (xmi rfl ?_)))))))
 obtain ⟨t2,b2,o2,σ2,g2,hdel,hW2,hG2,hR2⟩:=hW1.delS hl hp ht ⟨by omega,by omega,by omega,by omega,by omega⟩ (by assumption) (by assumption)
 refine TL.callD [1] [1] (zau zam hl hdel) ⟨rfl,rfl,trivial⟩ ⟨rfl,trivial⟩ za7 rfl rfl rfl rfl rfl trivial (TL.done (TQ.inBlock (TQ.roundK (σ2) ⟨⟨g2,hW2,hR2⟩,Nat.zero_lt_one⟩ trivial ⟨rfl,trivial⟩ (kE3 rfl rfl rfl trivial) (kL5 rfl rfl rfl rfl rfl trivial))))
 refine xpG rfl (xaf rfl (TL.done (TQ.then (TC.condF rfl (sA (xaf rfl (dR (TQ.blockRet ?_))))))))
 refine TQ.thenRet ?_
 refine FQ.ret1 (v:=(.bool false)) (Bs:=[_,_]) [0,1] rfl rfl rfl ⟨rfl,rfl,trivial⟩ ?_
 first | exact ⟨false,_,rfl,rfl,.inl ⟨rfl,rfl⟩⟩ | (obtain rfl:x=l.nodes.toNat:=(by omega); exact ⟨true,_,rfl,rfl,.inr ⟨rfl,hC.updSt hl hp (by omega) hW2.rt.size hR2,_,hC.upd hl hp ht (by omega) hW2 hR2⟩⟩)
 refine xmf rfl (xo rfl (xpF rfl (xaf rfl (TL.done (TQ.then (TC.condF rfl (sA (xaf rfl ?_))))))))
 refine dR (TQ.blockRet (TQ.thenRet ?_))
 refine FQ.ret1 (v:=(.bool false)) (Bs:=[_,_]) [0,1] rfl rfl rfl ⟨rfl,rfl,trivial⟩ ?_
 first | exact ⟨false,_,rfl,rfl,.inl ⟨rfl,rfl⟩⟩ | (obtain rfl:x=l.nodes.toNat:=(by omega); exact ⟨true,_,rfl,rfl,.inr ⟨rfl,hC.updSt hl hp (by omega) hW2.rt.size hR2,_,hC.upd hl hp ht (by omega) hW2 hR2⟩⟩)
 refine xmf rfl (xo rfl (xo rfl (xpF rfl (xmf rfl (xo rfl (xo rfl (xpF rfl (xaf rfl ?_))))))))
 refine TL.done (TQ.then (TC.condF rfl (sA (xf 0 zai rfl (xli 2 zac rfl rfl (TL.eql rfl rfl rfl rfl (fun q7=>?_) (fun q7=>?_)))))))
 refine xmt rfl (xmb rfl (TL.cases rfl (fun q8=>?_) (fun q8=>?_)))
 refine xpT rfl (xat rfl (TL.done (TQ.then (TC.condT rfl (TC.region (xL10 11 zae rfl rfl (xmi rfl ?_)))))))
 obtain ⟨t2,b2,o2,σ2,g2,hdel,hW2,hG2,hR2⟩:=hW1.delS hl hp ht ⟨by omega,by omega,by omega,by omega,by omega⟩ (by assumption) (by assumption)
 refine TL.callD [1] [1] (zau zam hl hdel) ⟨rfl,rfl,trivial⟩ ⟨rfl,trivial⟩ za7 rfl rfl rfl rfl rfl trivial (TL.done (TQ.inBlock (TQ.roundK (σ2) ⟨⟨g2,hW2,hR2⟩,Nat.zero_lt_one⟩ trivial ⟨rfl,trivial⟩ (kE3 rfl rfl rfl trivial) (kL5 rfl rfl rfl rfl rfl trivial))))
 refine xpG rfl (xaf rfl (TL.done (TQ.then (TC.condF rfl (sA (xaf rfl (dR (TQ.blockRet ?_))))))))
 refine TQ.thenRet ?_
 refine FQ.ret1 (v:=(.bool false)) (Bs:=[_,_]) [0,1] rfl rfl rfl ⟨rfl,rfl,trivial⟩ ?_
 first | exact ⟨false,_,rfl,rfl,.inl ⟨rfl,rfl⟩⟩ | (obtain rfl:x=l.nodes.toNat:=(by omega); exact ⟨true,_,rfl,rfl,.inr ⟨rfl,hC.updSt hl hp (by omega) hW2.rt.size hR2,_,hC.upd hl hp ht (by omega) hW2 hR2⟩⟩)
 refine xmf rfl (xo rfl (xpF rfl (xaf rfl (TL.done (TQ.then (TC.condF rfl (sA (xaf rfl ?_))))))))
 refine dR (TQ.blockRet (TQ.thenRet ?_))
 refine FQ.ret1 (v:=(.bool false)) (Bs:=[_,_]) [0,1] rfl rfl rfl ⟨rfl,rfl,trivial⟩ ?_
 first | exact ⟨false,_,rfl,rfl,.inl ⟨rfl,rfl⟩⟩ | (obtain rfl:x=l.nodes.toNat:=(by omega); exact ⟨true,_,rfl,rfl,.inr ⟨rfl,hC.updSt hl hp (by omega) hW2.rt.size hR2,_,hC.upd hl hp ht (by omega) hW2 hR2⟩⟩)
 obtain ⟨g2,hW2,hR2⟩:=hI
 refine TC.sub (env':=[(0,_),(5,_),(6,_)]) (L':=[(1,_),(0,_),(2,_),(9,_),(10,_),(11,_)]) ⟨rfl,rfl,rfl,trivial⟩ ⟨rfl,rfl,rfl,rfl,rfl,rfl,trivial⟩ (sB (xai rfl (dK (TC.loopK (X:=Nat) [0,5,6] [0,2,9,10,11] (fun x=>[(12,.int .i64 ((x+1:Nat):Int))]) (fun x=>[(1,zaj ab mb 140 71 (verN l ⟨1,k⟩ x σ2))]) (fun x=>(x:Int)≤l.nodes) (fun x=>l.nodes.toNat - x) (0) (by omega) ⟨rfl,trivial⟩ ⟨rfl,trivial⟩ (fun x hI=>(TC.sub (env':=[(12,_),(0,_),(5,_),(6,_)]) (L':=[(1,_),(0,_),(2,_),(9,_),(10,_),(11,_)]) ⟨rfl,rfl,rfl,rfl,trivial⟩ ⟨rfl,rfl,rfl,rfl,rfl,rfl,trivial⟩ (sB (xmi rfl (xmp rfl ?_)))))))))
 refine xN0 rfl (xf 0 zab rfl (xL3 0 zaa rfl rfl (TL.callD [] [] (zaV hl) ⟨rfl,trivial⟩ trivial zbE rfl rfl rfl rfl rfl trivial (TL.leq rfl rfl rfl rfl (fun q6=>?_) (fun q6=>?_)))))
 refine TL.done (TQ.then (TC.condT rfl (TC.skip (TQ.then (TC.seq (TC.block (sA (xmp rfl ?_))))))))
 refine xN0 rfl (xf 0 zab rfl (xL3 0 zaa rfl rfl (xmi rfl (TL.callD [] [] (zbj hl) ⟨rfl,rfl,trivial⟩ trivial zb1 rfl rfl rfl rfl rfl trivial (xmu rfl (TL.ext (.agg _) rfl rfl rfl rfl (TL.ext (.bool _) rfl rfl rfl rfl (TL.alloc 12 (cs:=#[.bool false,.int .i64 0,.int .i64 0,.int .i64 0,.int .i64 0]) zbw rfl rfl rfl (fun _=>trivial) (fun bk12=>?_)))))))))
 refine TL.stW 12 5 [_,_,_,_,_] rfl rfl rfl rfl rfl rfl zaQ rfl rfl trivial (xab rfl (dA (xf 1 zaS rfl (xli 12 zac rfl rfl (TL.eql rfl rfl rfl rfl (fun q7=>?_) (fun q7=>?_))))))
 refine dT rfl (xmp rfl (xN0 rfl (xf 0 zab rfl (xL3 0 zaa rfl rfl (xmi rfl (TL.callD [] [] (zay hl) ⟨rfl,rfl,rfl,trivial⟩ trivial zaW rfl rfl rfl rfl rfl trivial (xai rfl (TL.done ?_))))))))
 refine TQ.then (TC.draw [(0,true),(1,true),(2,true),(3,true),(4,true),(5,true),(6,true),(7,false),(8,true),(9,false)] [9,10] fc_m (by kernel_rfl) (xL2 10 zar rfl rfl (TL.ldA 9 1 [_] rfl rfl rfl zak rfl rfl (TL.miN (v:=(.agg _)) rfl zaI rfl rfl (xmi rfl (TL.ldA 9 1 [_] rfl rfl rfl zak rfl rfl (TL.miN (v:=(.agg _)) rfl zaI rfl rfl (xmi rfl ?_))))))))
 refine TL.callD [1] [1] (zdN zam) ⟨rfl,rfl,trivial⟩ ⟨rfl,trivial⟩ zcN rfl rfl rfl rfl rfl (kL2 rfl rfl trivial) (TL.add _ rfl rfl (rfl) rfl rfl (TL.callD [1] [1] (zb2 (p:=⟨1,k⟩) zam) ⟨rfl,rfl,rfl,rfl,trivial⟩ ⟨rfl,trivial⟩ zcO rfl rfl rfl rfl rfl (kL2 rfl rfl trivial) (dI (xmi rfl (TL.add (((x+2:Nat):Int)) rfl rfl (wrN (by omega)) rfl rfl (xai rfl (TL.done (TQ.roundK (x+1) ⟨(by omega),(by omega)⟩ ⟨rfl,trivial⟩ ⟨congrArg (fun z=>some (zaj ab mb 140 71 (z))) (by first | exact zbQ (by assumption) | exact zbR (by assumption)),trivial⟩ (kE3 rfl rfl rfl trivial) (kL5 rfl rfl rfl rfl rfl trivial)))))))))
 refine TL.done (TQ.then (TC.condF rfl (TC.skip (TQ.inBlock (TQ.then (TC.region (xmi rfl (TL.add (((x+2:Nat):Int)) rfl rfl (wrN (by omega)) rfl rfl ?_))))))))
 refine xai rfl (TL.done (TQ.roundK (x+1) ⟨(by omega),(by omega)⟩ ⟨rfl,trivial⟩ ⟨congrArg (fun z=>some (zaj ab mb 140 71 (z))) (by first | exact zbQ (by assumption) | exact zbR (by assumption)),trivial⟩ (kE3 rfl rfl rfl trivial) (kL5 rfl rfl rfl rfl rfl trivial)))
 refine dE rfl (sA (xat rfl (dR ?_)))
 refine FQ.ret1 (v:=(.bool true)) (Bs:=[_,_]) [0,1] rfl rfl rfl ⟨rfl,rfl,trivial⟩ ?_
 first | exact ⟨false,_,rfl,rfl,.inl ⟨rfl,rfl⟩⟩ | (obtain rfl:x=l.nodes.toNat:=(by omega); exact ⟨true,_,rfl,rfl,.inr ⟨rfl,hC.updSt hl hp (by omega) hW2.rt.size hR2,_,hC.upd hl hp ht (by omega) hW2 hR2⟩⟩)
 refine TL.alloc 13 (cs:=#[.int .i64 0,.int .i64 0,.int .i64 0,.nilIface,.int .i64 0,.int .i64 0,.int .i64 0,.int .i64 0,.int .i64 0,.nilIface]) zds rfl rfl rfl (fun _=>(kL3 rfl rfl rfl trivial)) (fun bk13=>(TL.tree (TT.fin (TL.callD [] [] (zci (p:=⟨1,k⟩)) ⟨rfl,rfl,rfl,trivial⟩ trivial zeh rfl rfl rfl rfl rfl (kL3 rfl rfl rfl trivial) (TL.stW 13 10 [_,_,_,_,_,_,_,_,_,_] rfl rfl rfl rfl rfl rfl zae rfl rfl (kL3 rfl rfl rfl trivial) (dA (xf 0 zaE rfl (xf 0 zan rfl (xf 6 zas rfl (xL4 13 zaP rfl rfl ?_))))))))))
 refine xf 1 zaB rfl (xli 2 zac rfl rfl (xf 2 zaA rfl (xli 2 zac rfl rfl (TL.callD [1] [1] (zcw zam hl) ⟨rfl,rfl,rfl,trivial⟩ ⟨rfl,trivial⟩ zdv rfl rfl rfl rfl rfl trivial (xmu rfl (xei rfl rfl (TL.ext (.bool _) rfl rfl rfl rfl (TL.ext (.bool _) rfl rfl rfl rfl ?_))))))))
 refine xai rfl (xab rfl (xab rfl (dA (xmp rfl (xL10 13 zae rfl rfl (TL.callD [0,1] [0,1] (zbM hl (hW1.edges hl)) ⟨rfl,rfl,trivial⟩ ⟨rfl,rfl,trivial⟩ zc4 rfl rfl rfl rfl rfl trivial (xai rfl (TL.done ?_))))))))
 refine TQ.then (TC.join (X:=M) [0,5,6] [0,2,9,10,13] (fun σ2=>[]) (fun σ2=>[(1,zaj ab mb 140 71 (σ2))]) (fun σ2=>∃ g2,Writ l pr ⟨1,k⟩ (parent l σ) (fun _=>k) σ2 g2∧Rch l ⟨1,k⟩ σ σ2) ?_ (fun σ2 hI=>?_))
 refine TC.block (sA (xf 0 zai rfl (xli 2 zac rfl rfl (TL.eql rfl rfl rfl rfl (fun q6=>?_) (fun q6=>?_)))))
 refine xmt rfl (xmb rfl (TL.cases rfl (fun q7=>?_) (fun q7=>?_)))
 refine xnt rfl (xpG rfl (xmf rfl (xo rfl (xo rfl (xpF rfl (xaf rfl (TL.done (TQ.then ?_))))))))
 refine TC.condF rfl (sA (xf 0 zai rfl (xli 2 zac rfl rfl (TL.eql rfl rfl rfl rfl (fun q8=>?_) (fun q8=>?_)))))
 refine xmt rfl (xmb rfl (TL.cases rfl (fun q9=>?_) (fun q9=>?_)))
 refine xpT rfl (xat rfl (TL.done (TQ.then (TC.condT rfl (TC.region (xL10 13 zae rfl rfl (xmi rfl ?_)))))))
 obtain ⟨t2,b2,o2,σ2,g2,hdel,hW2,hG2,hR2⟩:=hW1.delS hl hp ht ⟨by omega,by omega,by omega,by omega,by omega⟩ (by assumption) (by assumption)
 refine TL.callD [1] [1] (zau zam hl hdel) ⟨rfl,rfl,trivial⟩ ⟨rfl,trivial⟩ za7 rfl rfl rfl rfl rfl trivial (TL.done (TQ.inBlock (TQ.roundK (σ2) ⟨⟨g2,hW2,hR2⟩,Nat.zero_lt_one⟩ trivial ⟨rfl,trivial⟩ (kE3 rfl rfl rfl trivial) (kL5 rfl rfl rfl rfl rfl trivial))))
 refine xpG rfl (xaf rfl (TL.done (TQ.then (TC.condF rfl (sA (xaf rfl (dR (TQ.blockRet ?_))))))))
 refine TQ.thenRet ?_
 refine FQ.ret1 (v:=(.bool false)) (Bs:=[_,_]) [0,1] rfl rfl rfl ⟨rfl,rfl,trivial⟩ ?_
 first | exact ⟨false,_,rfl,rfl,.inl ⟨rfl,rfl⟩⟩ | (obtain rfl:x=l.nodes.toNat:=(by omega); exact ⟨true,_,rfl,rfl,.inr ⟨rfl,hC.updSt hl hp (by omega) hW2.rt.size hR2,_,hC.upd hl hp ht (by omega) hW2 hR2⟩⟩)
 refine xmf rfl (xo rfl (xpF rfl (xaf rfl (TL.done (TQ.then (TC.condF rfl (sA (xaf rfl ?_))))))))
 refine dR (TQ.blockRet (TQ.thenRet ?_))
 refine FQ.ret1 (v:=(.bool false)) (Bs:=[_,_]) [0,1] rfl rfl rfl ⟨rfl,rfl,trivial⟩ ?_
 first | exact ⟨false,_,rfl,rfl,.inl ⟨rfl,rfl⟩⟩ | (obtain rfl:x=l.nodes.toNat:=(by omega); exact ⟨true,_,rfl,rfl,.inr ⟨rfl,hC.updSt hl hp (by omega) hW2.rt.size hR2,_,hC.upd hl hp ht (by omega) hW2 hR2⟩⟩)
 refine xnf rfl (xpT rfl (xmt rfl (xmi rfl (TL.geq rfl rfl rfl rfl (fun q8=>?_) (fun q8=>?_)))))
 refine xpT rfl (xat rfl (TL.done (TQ.then (TC.condT rfl (TC.region (xL10 13 zae rfl rfl (xmi rfl (xf 1 zaB rfl ?_))))))))
 refine xli 2 zac rfl rfl (xf 2 zaA rfl (xli 2 zac rfl rfl ?_))
 obtain ⟨t2,σ2,g2,hins,hW2,hG2,hR2⟩:=hW1.insS hl hp ht ⟨by omega,by omega,by omega,by omega,by omega⟩ (by assumption) (by assumption) (by assumption)
 refine TL.callD [1] [1] (zbo zam hl hins) ⟨rfl,rfl,rfl,rfl,trivial⟩ ⟨rfl,trivial⟩ zeg rfl rfl rfl rfl rfl trivial (TL.done (TQ.inBlock (TQ.roundK (σ2) ⟨⟨g2,hW2,hR2⟩,Nat.zero_lt_one⟩ trivial ⟨rfl,trivial⟩ (kE3 rfl rfl rfl trivial) (kL5 rfl rfl rfl rfl rfl trivial))))
 refine xpG rfl (xaf rfl (TL.done (TQ.then (TC.condF rfl (sA (xf 0 zai rfl (xli 2 zac rfl rfl (TL.eql rfl rfl rfl rfl (fun q9=>?_) (fun q9=>?_)))))))))
 refine xmt rfl (xmb rfl (TL.cases rfl (fun q10=>?_) (fun q10=>?_)))
 refine xpT rfl (xat rfl (TL.done (TQ.then (TC.condT rfl (TC.region (xL10 13 zae rfl rfl (xmi rfl ?_)))))))
 obtain ⟨t2,b2,o2,σ2,g2,hdel,hW2,hG2,hR2⟩:=hW1.delS hl hp ht ⟨by omega,by omega,by omega,by omega,by omega⟩ (by assumption) (by assumption)
 refine TL.callD [1] [1] (zau zam hl hdel) ⟨rfl,rfl,trivial⟩ ⟨rfl,trivial⟩ za7 rfl rfl rfl rfl rfl trivial (TL.done (TQ.inBlock (TQ.roundK (σ2) ⟨⟨g2,hW2,hR2⟩,Nat.zero_lt_one⟩ trivial ⟨rfl,trivial⟩ (kE3 rfl rfl rfl trivial) (kL5 rfl rfl rfl rfl rfl trivial))))
 refine xpG rfl (xaf rfl (TL.done (TQ.then (TC.condF rfl (sA (xaf rfl (dR (TQ.blockRet ?_))))))))
 refine TQ.thenRet ?_
 refine FQ.ret1 (v:=(.bool false)) (Bs:=[_,_]) [0,1] rfl rfl rfl ⟨rfl,rfl,trivial⟩ ?_
 first | exact ⟨false,_,rfl,rfl,.inl ⟨rfl,rfl⟩⟩ | (obtain rfl:x=l.nodes.toNat:=(by omega); exact ⟨true,_,rfl,rfl,.inr ⟨rfl,hC.updSt hl hp (by omega) hW2.rt.size hR2,_,hC.upd hl hp ht (by omega) hW2 hR2⟩⟩)
 refine xmf rfl (xo rfl (xpF rfl (xaf rfl (TL.done (TQ.then (TC.condF rfl (sA (xaf rfl ?_))))))))
 refine dR (TQ.blockRet (TQ.thenRet ?_))
 refine FQ.ret1 (v:=(.bool false)) (Bs:=[_,_]) [0,1] rfl rfl rfl ⟨rfl,rfl,trivial⟩ ?_
 first | exact ⟨false,_,rfl,rfl,.inl ⟨rfl,rfl⟩⟩ | (obtain rfl:x=l.nodes.toNat:=(by omega); exact ⟨true,_,rfl,rfl,.inr ⟨rfl,hC.updSt hl hp (by omega) hW2.rt.size hR2,_,hC.upd hl hp ht (by omega) hW2 hR2⟩⟩)
 refine xmf rfl (xo rfl (xo rfl (xpF rfl (xmf rfl (xo rfl (xo rfl (xpF rfl (xaf rfl ?_))))))))
 refine TL.done (TQ.then (TC.condF rfl (sA (xf 0 zai rfl (xli 2 zac rfl rfl (TL.eql rfl rfl rfl rfl (fun q7=>?_) (fun q7=>?_)))))))
 refine xmt rfl (xmb rfl (TL.cases rfl (fun q8=>?_) (fun q8=>?_)))
 refine xpT rfl (xat rfl (TL.done (TQ.then (TC.condT rfl (TC.region (xL10 13 zae rfl rfl (xmi rfl ?_)))))))
 obtain ⟨t2,b2,o2,σ2,g2,hdel,hW2,hG2,hR2⟩:=hW1.delS hl hp ht ⟨by omega,by omega,by omega,by omega,by omega⟩ (by assumption) (by assumption)
 refine TL.callD [1] [1] (zau zam hl hdel) ⟨rfl,rfl,trivial⟩ ⟨rfl,trivial⟩ za7 rfl rfl rfl rfl rfl trivial (TL.done (TQ.inBlock (TQ.roundK (σ2) ⟨⟨g2,hW2,hR2⟩,Nat.zero_lt_one⟩ trivial ⟨rfl,trivial⟩ (kE3 rfl rfl rfl trivial) (kL5 rfl rfl rfl rfl rfl trivial))))
 refine xpG rfl (xaf rfl (TL.done (TQ.then (TC.condF rfl (sA (xaf rfl (dR (TQ.blockRet ?_))))))))
 refine TQ.thenRet ?_
 refine FQ.ret1 (v:=(.bool false)) (Bs:=[_,_]) [0,1] rfl rfl rfl ⟨rfl,rfl,trivial⟩ ?_
 first | exact ⟨false,_,rfl,rfl,.inl ⟨rfl,rfl⟩⟩ | (obtain rfl:x=l.nodes.toNat:=(by omega); exact ⟨true,_,rfl,rfl,.inr ⟨rfl,hC.updSt hl hp (by omega) hW2.rt.size hR2,_,hC.upd hl hp ht (by omega) hW2 hR2⟩⟩)
 refine xmf rfl (xo rfl (xpF rfl (xaf rfl (TL.done (TQ.then (TC.condF rfl (sA (xaf rfl ?_))))))))
 refine dR (TQ.blockRet (TQ.thenRet ?_))
 refine FQ.ret1 (v:=(.bool false)) (Bs:=[_,_]) [0,1] rfl rfl rfl ⟨rfl,rfl,trivial⟩ ?_
 first | exact ⟨false,_,rfl,rfl,.inl ⟨rfl,rfl⟩⟩ | (obtain rfl:x=l.nodes.toNat:=(by omega); exact ⟨true,_,rfl,rfl,.inr ⟨rfl,hC.updSt hl hp (by omega) hW2.rt.size hR2,_,hC.upd hl hp ht (by omega) hW2 hR2⟩⟩)
 obtain ⟨g2,hW2,hR2⟩:=hI
 refine TC.sub (env':=[(0,_),(5,_),(6,_)]) (L':=[(1,_),(0,_),(2,_),(9,_),(10,_),(13,_)]) ⟨rfl,rfl,rfl,trivial⟩ ⟨rfl,rfl,rfl,rfl,rfl,rfl,trivial⟩ (sB (xai rfl (dK (TC.loopK (X:=Nat) [0,5,6] [0,2,9,10,13] (fun x=>[(12,.int .i64 ((x+1:Nat):Int))]) (fun x=>[(1,zaj ab mb 140 71 (verN l ⟨1,k⟩ x σ2))]) (fun x=>(x:Int)≤l.nodes) (fun x=>l.nodes.toNat - x) (0) (by omega) ⟨rfl,trivial⟩ ⟨rfl,trivial⟩ (fun x hI=>(TC.sub (env':=[(12,_),(0,_),(5,_),(6,_)]) (L':=[(1,_),(0,_),(2,_),(9,_),(10,_),(13,_)]) ⟨rfl,rfl,rfl,rfl,trivial⟩ ⟨rfl,rfl,rfl,rfl,rfl,rfl,trivial⟩ (sB (xmi rfl (xmp rfl ?_)))))))))
 refine xN0 rfl (xf 0 zab rfl (xL3 0 zaa rfl rfl (TL.callD [] [] (zaV hl) ⟨rfl,trivial⟩ trivial zbE rfl rfl rfl rfl rfl trivial (TL.leq rfl rfl rfl rfl (fun q6=>?_) (fun q6=>?_)))))
 refine TL.done (TQ.then (TC.condT rfl (TC.skip (TQ.then (TC.seq (TC.block (sA (xmp rfl ?_))))))))
 refine xN0 rfl (xf 0 zab rfl (xL3 0 zaa rfl rfl (xmi rfl (TL.callD [] [] (zbj hl) ⟨rfl,rfl,trivial⟩ trivial zb1 rfl rfl rfl rfl rfl trivial (xmu rfl (TL.ext (.agg _) rfl rfl rfl rfl (TL.ext (.bool _) rfl rfl rfl rfl (TL.alloc 14 (cs:=#[.bool false,.int .i64 0,.int .i64 0,.int .i64 0,.int .i64 0]) zbw rfl rfl rfl (fun _=>trivial) (fun bk14=>?_)))))))))
 refine TL.stW 14 5 [_,_,_,_,_] rfl rfl rfl rfl rfl rfl zaQ rfl rfl trivial (xab rfl (dA (xf 1 zaS rfl (xli 14 zac rfl rfl (TL.eql rfl rfl rfl rfl (fun q7=>?_) (fun q7=>?_))))))
 refine dT rfl (xmp rfl (xN0 rfl (xf 0 zab rfl (xL3 0 zaa rfl rfl (xmi rfl (TL.callD [] [] (zay hl) ⟨rfl,rfl,rfl,trivial⟩ trivial zaW rfl rfl rfl rfl rfl trivial (xai rfl (TL.done ?_))))))))
 refine TQ.then (TC.draw [(0,true),(1,true),(2,true),(3,true),(4,true),(5,true),(6,true),(7,false),(8,true),(9,false)] [9,10] fc_m (by kernel_rfl) (xL2 10 zar rfl rfl (TL.ldA 9 1 [_] rfl rfl rfl zak rfl rfl (TL.miN (v:=(.agg _)) rfl zaI rfl rfl (xmi rfl (TL.ldA 9 1 [_] rfl rfl rfl zak rfl rfl (TL.miN (v:=(.agg _)) rfl zaI rfl rfl (xmi rfl ?_))))))))
 refine TL.callD [1] [1] (zdN zam) ⟨rfl,rfl,trivial⟩ ⟨rfl,trivial⟩ zcN rfl rfl rfl rfl rfl (kL2 rfl rfl trivial) (TL.add _ rfl rfl (rfl) rfl rfl (TL.callD [1] [1] (zb2 (p:=⟨1,k⟩) zam) ⟨rfl,rfl,rfl,rfl,trivial⟩ ⟨rfl,trivial⟩ zcO rfl rfl rfl rfl rfl (kL2 rfl rfl trivial) (dI (xmi rfl (TL.add (((x+2:Nat):Int)) rfl rfl (wrN (by omega)) rfl rfl (xai rfl (TL.done (TQ.roundK (x+1) ⟨(by omega),(by omega)⟩ ⟨rfl,trivial⟩ ⟨congrArg (fun z=>some (zaj ab mb 140 71 (z))) (by first | exact zbQ (by assumption) | exact zbR (by assumption)),trivial⟩ (kE3 rfl rfl rfl trivial) (kL5 rfl rfl rfl rfl rfl trivial)))))))))
 refine TL.done (TQ.then (TC.condF rfl (TC.skip (TQ.inBlock (TQ.then (TC.region (xmi rfl (TL.add (((x+2:Nat):Int)) rfl rfl (wrN (by omega)) rfl rfl ?_))))))))
 refine xai rfl (TL.done (TQ.roundK (x+1) ⟨(by omega),(by omega)⟩ ⟨rfl,trivial⟩ ⟨congrArg (fun z=>some (zaj ab mb 140 71 (z))) (by first | exact zbQ (by assumption) | exact zbR (by assumption)),trivial⟩ (kE3 rfl rfl rfl trivial) (kL5 rfl rfl rfl rfl rfl trivial)))
 refine dE rfl (sA (xat rfl (dR ?_)))
 refine FQ.ret1 (v:=(.bool true)) (Bs:=[_,_]) [0,1] rfl rfl rfl ⟨rfl,rfl,trivial⟩ ?_
 first | exact ⟨false,_,rfl,rfl,.inl ⟨rfl,rfl⟩⟩ | (obtain rfl:x=l.nodes.toNat:=(by omega); exact ⟨true,_,rfl,rfl,.inr ⟨rfl,hC.updSt hl hp (by omega) hW2.rt.size hR2,_,hC.upd hl hp ht (by omega) hW2 hR2⟩⟩)
 refine TL.alloc 15 (cs:=#[.int .i64 0,.int .i64 0]) zdR rfl rfl rfl (fun _=>(kL1 rfl trivial)) (fun bk15=>(TL.tree (TT.br (TL.both ?_ ?_))))
 refine TL.callD [] [] zbT ⟨rfl,trivial⟩ trivial zdw rfl rfl rfl rfl rfl (kL1 rfl trivial) (TL.tree (TT.fin (TL.alloc 16 (cs:=#[.pointer none]) zdQ rfl rfl rfl (fun _=>(kL1 rfl trivial)) (fun bk16=>(TL.stW 15 2 [_,_] rfl rfl rfl rfl rfl rfl zar rfl rfl (kL1 rfl trivial) (TL.stW 16 1 [_] rfl rfl rfl rfl rfl rfl zak rfl rfl (kL1 rfl trivial) (dS (TC.drawT (.br [(0,true),(1,true),(2,true),(3,true),(4,true),(5,true),(6,true)] 7 8 (.fin [(8,false),(9,false)]) (.fin [(7,false),(9,false)])) [0,15,16] fc_m (by kernel_rfl) (TT.br (xmp rfl (xN0 rfl ?_)))))))))))
 refine xf 0 zab rfl (xL3 0 zaa rfl rfl (TL.ldA 16 1 [_] rfl rfl rfl zak rfl rfl (TL.miN (v:=(.agg _)) rfl zaI rfl rfl (xL2 15 zar rfl rfl (TL.both ?_ ?_)))))
 refine TL.callD [] [] (zci (p:=⟨1,k⟩)) ⟨rfl,rfl,rfl,trivial⟩ trivial zeh rfl rfl rfl rfl rfl (kL3 rfl rfl rfl trivial) (TL.tree (TT.fin (TL.alloc 17 (cs:=#[.int .i64 0,.int .i64 0,.int .i64 0,.nilIface,.int .i64 0,.int .i64 0,.int .i64 0,.int .i64 0,.int .i64 0,.nilIface]) zds rfl rfl rfl (fun _=>(kL3 rfl rfl rfl trivial)) (fun bk17=>(TL.stW 17 10 [_,_,_,_,_,_,_,_,_,_] rfl rfl rfl rfl rfl rfl zae rfl rfl (kL3 rfl rfl rfl trivial) (dA (xf 0 zaE rfl (xf 0 zan rfl (xf 6 zas rfl (xL4 17 zaP rfl rfl ?_))))))))))
 refine xf 1 zaB rfl (xli 2 zac rfl rfl (xf 2 zaA rfl (xli 2 zac rfl rfl (TL.callD [1] [1] (zcw zam hl) ⟨rfl,rfl,rfl,trivial⟩ ⟨rfl,trivial⟩ zdv rfl rfl rfl rfl rfl trivial (xmu rfl (xei rfl rfl (TL.ext (.bool _) rfl rfl rfl rfl (TL.ext (.bool _) rfl rfl rfl rfl ?_))))))))
 refine xai rfl (xab rfl (xab rfl (dA (xmp rfl (xL10 17 zae rfl rfl (TL.callD [0,1] [0,1] (zbM hl (hW1.edges hl)) ⟨rfl,rfl,trivial⟩ ⟨rfl,rfl,trivial⟩ zc4 rfl rfl rfl rfl rfl trivial (xai rfl (TL.done ?_))))))))
 refine TQ.then (TC.join (X:=M) [0,5,6] [0,2,15,16,17] (fun σ2=>[]) (fun σ2=>[(1,zaj ab mb 140 71 (σ2))]) (fun σ2=>∃ g2,Writ l pr ⟨1,k⟩ (parent l σ) (fun _=>k) σ2 g2∧Rch l ⟨1,k⟩ σ σ2) ?_ (fun σ2 hI=>?_))
 refine TC.block (sA (xf 0 zai rfl (xli 2 zac rfl rfl (TL.eql rfl rfl rfl rfl (fun q6=>?_) (fun q6=>?_)))))
 refine xmt rfl (xmb rfl (TL.cases rfl (fun q7=>?_) (fun q7=>?_)))
 refine xnt rfl (xpG rfl (xmf rfl (xo rfl (xo rfl (xpF rfl (xaf rfl (TL.done (TQ.then ?_))))))))
 refine TC.condF rfl (sA (xf 0 zai rfl (xli 2 zac rfl rfl (TL.eql rfl rfl rfl rfl (fun q8=>?_) (fun q8=>?_)))))
 refine xmt rfl (xmb rfl (TL.cases rfl (fun q9=>?_) (fun q9=>?_)))
 refine xpT rfl (xat rfl (TL.done (TQ.then (TC.condT rfl (TC.region (xL10 17 zae rfl rfl (xmi rfl ?_)))))))
 obtain ⟨t2,b2,o2,σ2,g2,hdel,hW2,hG2,hR2⟩:=hW1.delS hl hp ht ⟨by omega,by omega,by omega,by omega,by omega⟩ (by assumption) (by assumption)
 refine TL.callD [1] [1] (zau zam hl hdel) ⟨rfl,rfl,trivial⟩ ⟨rfl,trivial⟩ za7 rfl rfl rfl rfl rfl trivial (TL.done (TQ.inBlock (TQ.roundK (σ2) ⟨⟨g2,hW2,hR2⟩,Nat.zero_lt_one⟩ trivial ⟨rfl,trivial⟩ (kE3 rfl rfl rfl trivial) (kL5 rfl rfl rfl rfl rfl trivial))))
 refine xpG rfl (xaf rfl (TL.done (TQ.then (TC.condF rfl (sA (xaf rfl (dR (TQ.blockRet ?_))))))))
 refine TQ.thenRet ?_
 refine FQ.ret1 (v:=(.bool false)) (Bs:=[_,_]) [0,1] rfl rfl rfl ⟨rfl,rfl,trivial⟩ ?_
 first | exact ⟨false,_,rfl,rfl,.inl ⟨rfl,rfl⟩⟩ | (obtain rfl:x=l.nodes.toNat:=(by omega); exact ⟨true,_,rfl,rfl,.inr ⟨rfl,hC.updSt hl hp (by omega) hW2.rt.size hR2,_,hC.upd hl hp ht (by omega) hW2 hR2⟩⟩)
 refine xmf rfl (xo rfl (xpF rfl (xaf rfl (TL.done (TQ.then (TC.condF rfl (sA (xaf rfl ?_))))))))
 refine dR (TQ.blockRet (TQ.thenRet ?_))
 refine FQ.ret1 (v:=(.bool false)) (Bs:=[_,_]) [0,1] rfl rfl rfl ⟨rfl,rfl,trivial⟩ ?_
 first | exact ⟨false,_,rfl,rfl,.inl ⟨rfl,rfl⟩⟩ | (obtain rfl:x=l.nodes.toNat:=(by omega); exact ⟨true,_,rfl,rfl,.inr ⟨rfl,hC.updSt hl hp (by omega) hW2.rt.size hR2,_,hC.upd hl hp ht (by omega) hW2 hR2⟩⟩)
 refine xnf rfl (xpT rfl (xmt rfl (xmi rfl (TL.geq rfl rfl rfl rfl (fun q8=>?_) (fun q8=>?_)))))
 refine xpT rfl (xat rfl (TL.done (TQ.then (TC.condT rfl (TC.region (xL10 17 zae rfl rfl (xmi rfl (xf 1 zaB rfl ?_))))))))
 refine xli 2 zac rfl rfl (xf 2 zaA rfl (xli 2 zac rfl rfl ?_))
 obtain ⟨t2,σ2,g2,hins,hW2,hG2,hR2⟩:=hW1.insS hl hp ht ⟨by omega,by omega,by omega,by omega,by omega⟩ (by assumption) (by assumption) (by assumption)
 refine TL.callD [1] [1] (zbo zam hl hins) ⟨rfl,rfl,rfl,rfl,trivial⟩ ⟨rfl,trivial⟩ zeg rfl rfl rfl rfl rfl trivial (TL.done (TQ.inBlock (TQ.roundK (σ2) ⟨⟨g2,hW2,hR2⟩,Nat.zero_lt_one⟩ trivial ⟨rfl,trivial⟩ (kE3 rfl rfl rfl trivial) (kL5 rfl rfl rfl rfl rfl trivial))))
 refine xpG rfl (xaf rfl (TL.done (TQ.then (TC.condF rfl (sA (xf 0 zai rfl (xli 2 zac rfl rfl (TL.eql rfl rfl rfl rfl (fun q9=>?_) (fun q9=>?_)))))))))
 refine xmt rfl (xmb rfl (TL.cases rfl (fun q10=>?_) (fun q10=>?_)))
 refine xpT rfl (xat rfl (TL.done (TQ.then (TC.condT rfl (TC.region (xL10 17 zae rfl rfl (xmi rfl ?_)))))))
 obtain ⟨t2,b2,o2,σ2,g2,hdel,hW2,hG2,hR2⟩:=hW1.delS hl hp ht ⟨by omega,by omega,by omega,by omega,by omega⟩ (by assumption) (by assumption)
 refine TL.callD [1] [1] (zau zam hl hdel) ⟨rfl,rfl,trivial⟩ ⟨rfl,trivial⟩ za7 rfl rfl rfl rfl rfl trivial (TL.done (TQ.inBlock (TQ.roundK (σ2) ⟨⟨g2,hW2,hR2⟩,Nat.zero_lt_one⟩ trivial ⟨rfl,trivial⟩ (kE3 rfl rfl rfl trivial) (kL5 rfl rfl rfl rfl rfl trivial))))
 refine xpG rfl (xaf rfl (TL.done (TQ.then (TC.condF rfl (sA (xaf rfl (dR (TQ.blockRet ?_))))))))
 refine TQ.thenRet ?_
 refine FQ.ret1 (v:=(.bool false)) (Bs:=[_,_]) [0,1] rfl rfl rfl ⟨rfl,rfl,trivial⟩ ?_
 first | exact ⟨false,_,rfl,rfl,.inl ⟨rfl,rfl⟩⟩ | (obtain rfl:x=l.nodes.toNat:=(by omega); exact ⟨true,_,rfl,rfl,.inr ⟨rfl,hC.updSt hl hp (by omega) hW2.rt.size hR2,_,hC.upd hl hp ht (by omega) hW2 hR2⟩⟩)
 refine xmf rfl (xo rfl (xpF rfl (xaf rfl (TL.done (TQ.then (TC.condF rfl (sA (xaf rfl ?_))))))))
 refine dR (TQ.blockRet (TQ.thenRet ?_))
 refine FQ.ret1 (v:=(.bool false)) (Bs:=[_,_]) [0,1] rfl rfl rfl ⟨rfl,rfl,trivial⟩ ?_
 first | exact ⟨false,_,rfl,rfl,.inl ⟨rfl,rfl⟩⟩ | (obtain rfl:x=l.nodes.toNat:=(by omega); exact ⟨true,_,rfl,rfl,.inr ⟨rfl,hC.updSt hl hp (by omega) hW2.rt.size hR2,_,hC.upd hl hp ht (by omega) hW2 hR2⟩⟩)
 refine xmf rfl (xo rfl (xo rfl (xpF rfl (xmf rfl (xo rfl (xo rfl (xpF rfl (xaf rfl ?_))))))))
 refine TL.done (TQ.then (TC.condF rfl (sA (xf 0 zai rfl (xli 2 zac rfl rfl (TL.eql rfl rfl rfl rfl (fun q7=>?_) (fun q7=>?_)))))))
 refine xmt rfl (xmb rfl (TL.cases rfl (fun q8=>?_) (fun q8=>?_)))
 refine xpT rfl (xat rfl (TL.done (TQ.then (TC.condT rfl (TC.region (xL10 17 zae rfl rfl (xmi rfl ?_)))))))
 obtain ⟨t2,b2,o2,σ2,g2,hdel,hW2,hG2,hR2⟩:=hW1.delS hl hp ht ⟨by omega,by omega,by omega,by omega,by omega⟩ (by assumption) (by assumption)
 refine TL.callD [1] [1] (zau zam hl hdel) ⟨rfl,rfl,trivial⟩ ⟨rfl,trivial⟩ za7 rfl rfl rfl rfl rfl trivial (TL.done (TQ.inBlock (TQ.roundK (σ2) ⟨⟨g2,hW2,hR2⟩,Nat.zero_lt_one⟩ trivial ⟨rfl,trivial⟩ (kE3 rfl rfl rfl trivial) (kL5 rfl rfl rfl rfl rfl trivial))))
 refine xpG rfl (xaf rfl (TL.done (TQ.then (TC.condF rfl (sA (xaf rfl (dR (TQ.blockRet ?_))))))))
 refine TQ.thenRet ?_
 refine FQ.ret1 (v:=(.bool false)) (Bs:=[_,_]) [0,1] rfl rfl rfl ⟨rfl,rfl,trivial⟩ ?_
 first | exact ⟨false,_,rfl,rfl,.inl ⟨rfl,rfl⟩⟩ | (obtain rfl:x=l.nodes.toNat:=(by omega); exact ⟨true,_,rfl,rfl,.inr ⟨rfl,hC.updSt hl hp (by omega) hW2.rt.size hR2,_,hC.upd hl hp ht (by omega) hW2 hR2⟩⟩)
 refine xmf rfl (xo rfl (xpF rfl (xaf rfl (TL.done (TQ.then (TC.condF rfl (sA (xaf rfl ?_))))))))
 refine dR (TQ.blockRet (TQ.thenRet ?_))
 refine FQ.ret1 (v:=(.bool false)) (Bs:=[_,_]) [0,1] rfl rfl rfl ⟨rfl,rfl,trivial⟩ ?_
 first | exact ⟨false,_,rfl,rfl,.inl ⟨rfl,rfl⟩⟩ | (obtain rfl:x=l.nodes.toNat:=(by omega); exact ⟨true,_,rfl,rfl,.inr ⟨rfl,hC.updSt hl hp (by omega) hW2.rt.size hR2,_,hC.upd hl hp ht (by omega) hW2 hR2⟩⟩)
 obtain ⟨g2,hW2,hR2⟩:=hI
 refine TC.sub (env':=[(0,_),(5,_),(6,_)]) (L':=[(1,_),(0,_),(2,_),(15,_),(16,_),(17,_)]) ⟨rfl,rfl,rfl,trivial⟩ ⟨rfl,rfl,rfl,rfl,rfl,rfl,trivial⟩ (sB (xai rfl (dK (TC.loopK (X:=Nat) [0,5,6] [0,2,15,16,17] (fun x=>[(12,.int .i64 ((x+1:Nat):Int))]) (fun x=>[(1,zaj ab mb 140 71 (verN l ⟨1,k⟩ x σ2))]) (fun x=>(x:Int)≤l.nodes) (fun x=>l.nodes.toNat - x) (0) (by omega) ⟨rfl,trivial⟩ ⟨rfl,trivial⟩ (fun x hI=>(TC.sub (env':=[(12,_),(0,_),(5,_),(6,_)]) (L':=[(1,_),(0,_),(2,_),(15,_),(16,_),(17,_)]) ⟨rfl,rfl,rfl,rfl,trivial⟩ ⟨rfl,rfl,rfl,rfl,rfl,rfl,trivial⟩ (sB (xmi rfl (xmp rfl ?_)))))))))
 refine xN0 rfl (xf 0 zab rfl (xL3 0 zaa rfl rfl (TL.callD [] [] (zaV hl) ⟨rfl,trivial⟩ trivial zbE rfl rfl rfl rfl rfl trivial (TL.leq rfl rfl rfl rfl (fun q6=>?_) (fun q6=>?_)))))
 refine TL.done (TQ.then (TC.condT rfl (TC.skip (TQ.then (TC.seq (TC.block (sA (xmp rfl ?_))))))))
 refine xN0 rfl (xf 0 zab rfl (xL3 0 zaa rfl rfl (xmi rfl (TL.callD [] [] (zbj hl) ⟨rfl,rfl,trivial⟩ trivial zb1 rfl rfl rfl rfl rfl trivial (xmu rfl (TL.ext (.agg _) rfl rfl rfl rfl (TL.ext (.bool _) rfl rfl rfl rfl (TL.alloc 18 (cs:=#[.bool false,.int .i64 0,.int .i64 0,.int .i64 0,.int .i64 0]) zbw rfl rfl rfl (fun _=>trivial) (fun bk18=>?_)))))))))
 refine TL.stW 18 5 [_,_,_,_,_] rfl rfl rfl rfl rfl rfl zaQ rfl rfl trivial (xab rfl (dA (xf 1 zaS rfl (xli 18 zac rfl rfl (TL.eql rfl rfl rfl rfl (fun q7=>?_) (fun q7=>?_))))))
 refine dT rfl (xmp rfl (xN0 rfl (xf 0 zab rfl (xL3 0 zaa rfl rfl (xmi rfl (TL.callD [] [] (zay hl) ⟨rfl,rfl,rfl,trivial⟩ trivial zaW rfl rfl rfl rfl rfl trivial (xai rfl (TL.done ?_))))))))
 refine TQ.then (TC.draw [(0,true),(1,true),(2,true),(3,true),(4,true),(5,true),(6,true),(7,false),(8,true),(9,false)] [15,16] fc_m (by kernel_rfl) (xL2 15 zar rfl rfl (TL.ldA 16 1 [_] rfl rfl rfl zak rfl rfl (TL.miN (v:=(.agg _)) rfl zaI rfl rfl (xmi rfl (TL.ldA 16 1 [_] rfl rfl rfl zak rfl rfl (TL.miN (v:=(.agg _)) rfl zaI rfl rfl (xmi rfl ?_))))))))
 refine TL.callD [1] [1] (zdN zam) ⟨rfl,rfl,trivial⟩ ⟨rfl,trivial⟩ zcN rfl rfl rfl rfl rfl (kL2 rfl rfl trivial) (TL.add _ rfl rfl (rfl) rfl rfl (TL.callD [1] [1] (zb2 (p:=⟨1,k⟩) zam) ⟨rfl,rfl,rfl,rfl,trivial⟩ ⟨rfl,trivial⟩ zcO rfl rfl rfl rfl rfl (kL2 rfl rfl trivial) (dI (xmi rfl (TL.add (((x+2:Nat):Int)) rfl rfl (wrN (by omega)) rfl rfl (xai rfl (TL.done (TQ.roundK (x+1) ⟨(by omega),(by omega)⟩ ⟨rfl,trivial⟩ ⟨congrArg (fun z=>some (zaj ab mb 140 71 (z))) (by first | exact zbQ (by assumption) | exact zbR (by assumption)),trivial⟩ (kE3 rfl rfl rfl trivial) (kL5 rfl rfl rfl rfl rfl trivial)))))))))
 refine TL.done (TQ.then (TC.condF rfl (TC.skip (TQ.inBlock (TQ.then (TC.region (xmi rfl (TL.add (((x+2:Nat):Int)) rfl rfl (wrN (by omega)) rfl rfl ?_))))))))
 refine xai rfl (TL.done (TQ.roundK (x+1) ⟨(by omega),(by omega)⟩ ⟨rfl,trivial⟩ ⟨congrArg (fun z=>some (zaj ab mb 140 71 (z))) (by first | exact zbQ (by assumption) | exact zbR (by assumption)),trivial⟩ (kE3 rfl rfl rfl trivial) (kL5 rfl rfl rfl rfl rfl trivial)))
 refine dE rfl (sA (xat rfl (dR ?_)))
 refine FQ.ret1 (v:=(.bool true)) (Bs:=[_,_]) [0,1] rfl rfl rfl ⟨rfl,rfl,trivial⟩ ?_
 first | exact ⟨false,_,rfl,rfl,.inl ⟨rfl,rfl⟩⟩ | (obtain rfl:x=l.nodes.toNat:=(by omega); exact ⟨true,_,rfl,rfl,.inr ⟨rfl,hC.updSt hl hp (by omega) hW2.rt.size hR2,_,hC.upd hl hp ht (by omega) hW2 hR2⟩⟩)
 refine TL.alloc 19 (cs:=#[.int .i64 0,.int .i64 0,.int .i64 0,.nilIface,.int .i64 0,.int .i64 0,.int .i64 0,.int .i64 0,.int .i64 0,.nilIface]) zds rfl rfl rfl (fun _=>(kL3 rfl rfl rfl trivial)) (fun bk19=>(TL.tree (TT.fin (TL.callD [] [] (zci (p:=⟨1,k⟩)) ⟨rfl,rfl,rfl,trivial⟩ trivial zeh rfl rfl rfl rfl rfl (kL3 rfl rfl rfl trivial) (TL.stW 19 10 [_,_,_,_,_,_,_,_,_,_] rfl rfl rfl rfl rfl rfl zae rfl rfl (kL3 rfl rfl rfl trivial) (dA (xf 0 zaE rfl (xf 0 zan rfl (xf 6 zas rfl (xL4 19 zaP rfl rfl ?_))))))))))
 refine xf 1 zaB rfl (xli 2 zac rfl rfl (xf 2 zaA rfl (xli 2 zac rfl rfl (TL.callD [1] [1] (zcw zam hl) ⟨rfl,rfl,rfl,trivial⟩ ⟨rfl,trivial⟩ zdv rfl rfl rfl rfl rfl trivial (xmu rfl (xei rfl rfl (TL.ext (.bool _) rfl rfl rfl rfl (TL.ext (.bool _) rfl rfl rfl rfl ?_))))))))
 refine xai rfl (xab rfl (xab rfl (dA (xmp rfl (xL10 19 zae rfl rfl (TL.callD [0,1] [0,1] (zbM hl (hW1.edges hl)) ⟨rfl,rfl,trivial⟩ ⟨rfl,rfl,trivial⟩ zc4 rfl rfl rfl rfl rfl trivial (xai rfl (TL.done ?_))))))))
 refine TQ.then (TC.join (X:=M) [0,5,6] [0,2,15,16,19] (fun σ2=>[]) (fun σ2=>[(1,zaj ab mb 140 71 (σ2))]) (fun σ2=>∃ g2,Writ l pr ⟨1,k⟩ (parent l σ) (fun _=>k) σ2 g2∧Rch l ⟨1,k⟩ σ σ2) ?_ (fun σ2 hI=>?_))
 refine TC.block (sA (xf 0 zai rfl (xli 2 zac rfl rfl (TL.eql rfl rfl rfl rfl (fun q6=>?_) (fun q6=>?_)))))
 refine xmt rfl (xmb rfl (TL.cases rfl (fun q7=>?_) (fun q7=>?_)))
 refine xnt rfl (xpG rfl (xmf rfl (xo rfl (xo rfl (xpF rfl (xaf rfl (TL.done (TQ.then ?_))))))))
 refine TC.condF rfl (sA (xf 0 zai rfl (xli 2 zac rfl rfl (TL.eql rfl rfl rfl rfl (fun q8=>?_) (fun q8=>?_)))))
 refine xmt rfl (xmb rfl (TL.cases rfl (fun q9=>?_) (fun q9=>?_)))
 refine xpT rfl (xat rfl (TL.done (TQ.then (TC.condT rfl (TC.region (xL10 19 zae rfl rfl (xmi rfl ?_)))))))
 obtain ⟨t2,b2,o2,σ2,g2,hdel,hW2,hG2,hR2⟩:=hW1.delS hl hp ht ⟨by omega,by omega,by omega,by omega,by omega⟩ (by assumption) (by assumption)
 refine TL.callD [1] [1] (zau zam hl hdel) ⟨rfl,rfl,trivial⟩ ⟨rfl,trivial⟩ za7 rfl rfl rfl rfl rfl trivial (TL.done (TQ.inBlock (TQ.roundK (σ2) ⟨⟨g2,hW2,hR2⟩,Nat.zero_lt_one⟩ trivial ⟨rfl,trivial⟩ (kE3 rfl rfl rfl trivial) (kL5 rfl rfl rfl rfl rfl trivial))))
 refine xpG rfl (xaf rfl (TL.done (TQ.then (TC.condF rfl (sA (xaf rfl (dR (TQ.blockRet ?_))))))))
 refine TQ.thenRet ?_
 refine FQ.ret1 (v:=(.bool false)) (Bs:=[_,_]) [0,1] rfl rfl rfl ⟨rfl,rfl,trivial⟩ ?_
 first | exact ⟨false,_,rfl,rfl,.inl ⟨rfl,rfl⟩⟩ | (obtain rfl:x=l.nodes.toNat:=(by omega); exact ⟨true,_,rfl,rfl,.inr ⟨rfl,hC.updSt hl hp (by omega) hW2.rt.size hR2,_,hC.upd hl hp ht (by omega) hW2 hR2⟩⟩)
 refine xmf rfl (xo rfl (xpF rfl (xaf rfl (TL.done (TQ.then (TC.condF rfl (sA (xaf rfl ?_))))))))
 refine dR (TQ.blockRet (TQ.thenRet ?_))
 refine FQ.ret1 (v:=(.bool false)) (Bs:=[_,_]) [0,1] rfl rfl rfl ⟨rfl,rfl,trivial⟩ ?_
 first | exact ⟨false,_,rfl,rfl,.inl ⟨rfl,rfl⟩⟩ | (obtain rfl:x=l.nodes.toNat:=(by omega); exact ⟨true,_,rfl,rfl,.inr ⟨rfl,hC.updSt hl hp (by omega) hW2.rt.size hR2,_,hC.upd hl hp ht (by omega) hW2 hR2⟩⟩)
 refine xnf rfl (xpT rfl (xmt rfl (xmi rfl (TL.geq rfl rfl rfl rfl (fun q8=>?_) (fun q8=>?_)))))
 refine xpT rfl (xat rfl (TL.done (TQ.then (TC.condT rfl (TC.region (xL10 19 zae rfl rfl (xmi rfl (xf 1 zaB rfl ?_))))))))
 refine xli 2 zac rfl rfl (xf 2 zaA rfl (xli 2 zac rfl rfl ?_))
 obtain ⟨t2,σ2,g2,hins,hW2,hG2,hR2⟩:=hW1.insS hl hp ht ⟨by omega,by omega,by omega,by omega,by omega⟩ (by assumption) (by assumption) (by assumption)
 refine TL.callD [1] [1] (zbo zam hl hins) ⟨rfl,rfl,rfl,rfl,trivial⟩ ⟨rfl,trivial⟩ zeg rfl rfl rfl rfl rfl trivial (TL.done (TQ.inBlock (TQ.roundK (σ2) ⟨⟨g2,hW2,hR2⟩,Nat.zero_lt_one⟩ trivial ⟨rfl,trivial⟩ (kE3 rfl rfl rfl trivial) (kL5 rfl rfl rfl rfl rfl trivial))))
 refine xpG rfl (xaf rfl (TL.done (TQ.then (TC.condF rfl (sA (xf 0 zai rfl (xli 2 zac rfl rfl (TL.eql rfl rfl rfl rfl (fun q9=>?_) (fun q9=>?_)))))))))
 refine xmt rfl (xmb rfl (TL.cases rfl (fun q10=>?_) (fun q10=>?_)))
 refine xpT rfl (xat rfl (TL.done (TQ.then (TC.condT rfl (TC.region (xL10 19 zae rfl rfl (xmi rfl ?_)))))))
 obtain ⟨t2,b2,o2,σ2,g2,hdel,hW2,hG2,hR2⟩:=hW1.delS hl hp ht ⟨by omega,by omega,by omega,by omega,by omega⟩ (by assumption) (by assumption)
 refine TL.callD [1] [1] (zau zam hl hdel) ⟨rfl,rfl,trivial⟩ ⟨rfl,trivial⟩ za7 rfl rfl rfl rfl rfl trivial (TL.done (TQ.inBlock (TQ.roundK (σ2) ⟨⟨g2,hW2,hR2⟩,Nat.zero_lt_one⟩ trivial ⟨rfl,trivial⟩ (kE3 rfl rfl rfl trivial) (kL5 rfl rfl rfl rfl rfl trivial))))
 refine xpG rfl (xaf rfl (TL.done (TQ.then (TC.condF rfl (sA (xaf rfl (dR (TQ.blockRet ?_))))))))
 refine TQ.thenRet ?_
 refine FQ.ret1 (v:=(.bool false)) (Bs:=[_,_]) [0,1] rfl rfl rfl ⟨rfl,rfl,trivial⟩ ?_
 first | exact ⟨false,_,rfl,rfl,.inl ⟨rfl,rfl⟩⟩ | (obtain rfl:x=l.nodes.toNat:=(by omega); exact ⟨true,_,rfl,rfl,.inr ⟨rfl,hC.updSt hl hp (by omega) hW2.rt.size hR2,_,hC.upd hl hp ht (by omega) hW2 hR2⟩⟩)
 refine xmf rfl (xo rfl (xpF rfl (xaf rfl (TL.done (TQ.then (TC.condF rfl (sA (xaf rfl ?_))))))))
 refine dR (TQ.blockRet (TQ.thenRet ?_))
 refine FQ.ret1 (v:=(.bool false)) (Bs:=[_,_]) [0,1] rfl rfl rfl ⟨rfl,rfl,trivial⟩ ?_
 first | exact ⟨false,_,rfl,rfl,.inl ⟨rfl,rfl⟩⟩ | (obtain rfl:x=l.nodes.toNat:=(by omega); exact ⟨true,_,rfl,rfl,.inr ⟨rfl,hC.updSt hl hp (by omega) hW2.rt.size hR2,_,hC.upd hl hp ht (by omega) hW2 hR2⟩⟩)
 refine xmf rfl (xo rfl (xo rfl (xpF rfl (xmf rfl (xo rfl (xo rfl (xpF rfl (xaf rfl ?_))))))))
 refine TL.done (TQ.then (TC.condF rfl (sA (xf 0 zai rfl (xli 2 zac rfl rfl (TL.eql rfl rfl rfl rfl (fun q7=>?_) (fun q7=>?_)))))))
 refine xmt rfl (xmb rfl (TL.cases rfl (fun q8=>?_) (fun q8=>?_)))
 refine xpT rfl (xat rfl (TL.done (TQ.then (TC.condT rfl (TC.region (xL10 19 zae rfl rfl (xmi rfl ?_)))))))
 obtain ⟨t2,b2,o2,σ2,g2,hdel,hW2,hG2,hR2⟩:=hW1.delS hl hp ht ⟨by omega,by omega,by omega,by omega,by omega⟩ (by assumption) (by assumption)
 refine TL.callD [1] [1] (zau zam hl hdel) ⟨rfl,rfl,trivial⟩ ⟨rfl,trivial⟩ za7 rfl rfl rfl rfl rfl trivial (TL.done (TQ.inBlock (TQ.roundK (σ2) ⟨⟨g2,hW2,hR2⟩,Nat.zero_lt_one⟩ trivial ⟨rfl,trivial⟩ (kE3 rfl rfl rfl trivial) (kL5 rfl rfl rfl rfl rfl trivial))))
 refine xpG rfl (xaf rfl (TL.done (TQ.then (TC.condF rfl (sA (xaf rfl (dR (TQ.blockRet ?_))))))))
 refine TQ.thenRet ?_
 refine FQ.ret1 (v:=(.bool false)) (Bs:=[_,_]) [0,1] rfl rfl rfl ⟨rfl,rfl,trivial⟩ ?_
 first | exact ⟨false,_,rfl,rfl,.inl ⟨rfl,rfl⟩⟩ | (obtain rfl:x=l.nodes.toNat:=(by omega); exact ⟨true,_,rfl,rfl,.inr ⟨rfl,hC.updSt hl hp (by omega) hW2.rt.size hR2,_,hC.upd hl hp ht (by omega) hW2 hR2⟩⟩)
 refine xmf rfl (xo rfl (xpF rfl (xaf rfl (TL.done (TQ.then (TC.condF rfl (sA (xaf rfl ?_))))))))
 refine dR (TQ.blockRet (TQ.thenRet ?_))
 refine FQ.ret1 (v:=(.bool false)) (Bs:=[_,_]) [0,1] rfl rfl rfl ⟨rfl,rfl,trivial⟩ ?_
 first | exact ⟨false,_,rfl,rfl,.inl ⟨rfl,rfl⟩⟩ | (obtain rfl:x=l.nodes.toNat:=(by omega); exact ⟨true,_,rfl,rfl,.inr ⟨rfl,hC.updSt hl hp (by omega) hW2.rt.size hR2,_,hC.upd hl hp ht (by omega) hW2 hR2⟩⟩)
 obtain ⟨g2,hW2,hR2⟩:=hI
 refine TC.sub (env':=[(0,_),(5,_),(6,_)]) (L':=[(1,_),(0,_),(2,_),(15,_),(16,_),(19,_)]) ⟨rfl,rfl,rfl,trivial⟩ ⟨rfl,rfl,rfl,rfl,rfl,rfl,trivial⟩ (sB (xai rfl (dK (TC.loopK (X:=Nat) [0,5,6] [0,2,15,16,19] (fun x=>[(12,.int .i64 ((x+1:Nat):Int))]) (fun x=>[(1,zaj ab mb 140 71 (verN l ⟨1,k⟩ x σ2))]) (fun x=>(x:Int)≤l.nodes) (fun x=>l.nodes.toNat - x) (0) (by omega) ⟨rfl,trivial⟩ ⟨rfl,trivial⟩ (fun x hI=>(TC.sub (env':=[(12,_),(0,_),(5,_),(6,_)]) (L':=[(1,_),(0,_),(2,_),(15,_),(16,_),(19,_)]) ⟨rfl,rfl,rfl,rfl,trivial⟩ ⟨rfl,rfl,rfl,rfl,rfl,rfl,trivial⟩ (sB (xmi rfl (xmp rfl ?_)))))))))
 refine xN0 rfl (xf 0 zab rfl (xL3 0 zaa rfl rfl (TL.callD [] [] (zaV hl) ⟨rfl,trivial⟩ trivial zbE rfl rfl rfl rfl rfl trivial (TL.leq rfl rfl rfl rfl (fun q6=>?_) (fun q6=>?_)))))
 refine TL.done (TQ.then (TC.condT rfl (TC.skip (TQ.then (TC.seq (TC.block (sA (xmp rfl ?_))))))))
 refine xN0 rfl (xf 0 zab rfl (xL3 0 zaa rfl rfl (xmi rfl (TL.callD [] [] (zbj hl) ⟨rfl,rfl,trivial⟩ trivial zb1 rfl rfl rfl rfl rfl trivial (xmu rfl (TL.ext (.agg _) rfl rfl rfl rfl (TL.ext (.bool _) rfl rfl rfl rfl (TL.alloc 20 (cs:=#[.bool false,.int .i64 0,.int .i64 0,.int .i64 0,.int .i64 0]) zbw rfl rfl rfl (fun _=>trivial) (fun bk20=>?_)))))))))
 refine TL.stW 20 5 [_,_,_,_,_] rfl rfl rfl rfl rfl rfl zaQ rfl rfl trivial (xab rfl (dA (xf 1 zaS rfl (xli 20 zac rfl rfl (TL.eql rfl rfl rfl rfl (fun q7=>?_) (fun q7=>?_))))))
 refine dT rfl (xmp rfl (xN0 rfl (xf 0 zab rfl (xL3 0 zaa rfl rfl (xmi rfl (TL.callD [] [] (zay hl) ⟨rfl,rfl,rfl,trivial⟩ trivial zaW rfl rfl rfl rfl rfl trivial (xai rfl (TL.done ?_))))))))
 refine TQ.then (TC.draw [(0,true),(1,true),(2,true),(3,true),(4,true),(5,true),(6,true),(7,false),(8,true),(9,false)] [15,16] fc_m (by kernel_rfl) (xL2 15 zar rfl rfl (TL.ldA 16 1 [_] rfl rfl rfl zak rfl rfl (TL.miN (v:=(.agg _)) rfl zaI rfl rfl (xmi rfl (TL.ldA 16 1 [_] rfl rfl rfl zak rfl rfl (TL.miN (v:=(.agg _)) rfl zaI rfl rfl (xmi rfl ?_))))))))
 refine TL.callD [1] [1] (zdN zam) ⟨rfl,rfl,trivial⟩ ⟨rfl,trivial⟩ zcN rfl rfl rfl rfl rfl (kL2 rfl rfl trivial) (TL.add _ rfl rfl (rfl) rfl rfl (TL.callD [1] [1] (zb2 (p:=⟨1,k⟩) zam) ⟨rfl,rfl,rfl,rfl,trivial⟩ ⟨rfl,trivial⟩ zcO rfl rfl rfl rfl rfl (kL2 rfl rfl trivial) (dI (xmi rfl (TL.add (((x+2:Nat):Int)) rfl rfl (wrN (by omega)) rfl rfl (xai rfl (TL.done (TQ.roundK (x+1) ⟨(by omega),(by omega)⟩ ⟨rfl,trivial⟩ ⟨congrArg (fun z=>some (zaj ab mb 140 71 (z))) (by first | exact zbQ (by assumption) | exact zbR (by assumption)),trivial⟩ (kE3 rfl rfl rfl trivial) (kL5 rfl rfl rfl rfl rfl trivial)))))))))
 refine TL.done (TQ.then (TC.condF rfl (TC.skip (TQ.inBlock (TQ.then (TC.region (xmi rfl (TL.add (((x+2:Nat):Int)) rfl rfl (wrN (by omega)) rfl rfl ?_))))))))
 refine xai rfl (TL.done (TQ.roundK (x+1) ⟨(by omega),(by omega)⟩ ⟨rfl,trivial⟩ ⟨congrArg (fun z=>some (zaj ab mb 140 71 (z))) (by first | exact zbQ (by assumption) | exact zbR (by assumption)),trivial⟩ (kE3 rfl rfl rfl trivial) (kL5 rfl rfl rfl rfl rfl trivial)))
 refine dE rfl (sA (xat rfl (dR ?_)))
 refine FQ.ret1 (v:=(.bool true)) (Bs:=[_,_]) [0,1] rfl rfl rfl ⟨rfl,rfl,trivial⟩ ?_
 first | exact ⟨false,_,rfl,rfl,.inl ⟨rfl,rfl⟩⟩ | (obtain rfl:x=l.nodes.toNat:=(by omega); exact ⟨true,_,rfl,rfl,.inr ⟨rfl,hC.updSt hl hp (by omega) hW2.rt.size hR2,_,hC.upd hl hp ht (by omega) hW2 hR2⟩⟩)
 refine TL.alloc 21 (cs:=#[.pointer none]) zdQ rfl rfl rfl (fun _=>(kL1 rfl trivial)) (fun bk21=>(TL.tree (TT.fin (TL.callD [] [] zbT ⟨rfl,trivial⟩ trivial zdw rfl rfl rfl rfl rfl (kL1 rfl trivial) (TL.stW 15 2 [_,_] rfl rfl rfl rfl rfl rfl zar rfl rfl (kL1 rfl trivial) (TL.stW 21 1 [_] rfl rfl rfl rfl rfl rfl zak rfl rfl (kL1 rfl trivial) (dS (TC.drawT (.br [(0,true),(1,true),(2,true),(3,true),(4,true),(5,true),(6,true)] 7 8 (.fin [(8,false),(9,false)]) (.fin [(7,false),(9,false)])) [0,15,21] fc_m (by kernel_rfl) (TT.br (xmp rfl (xN0 rfl ?_)))))))))))
 refine xf 0 zab rfl (xL3 0 zaa rfl rfl (TL.ldA 21 1 [_] rfl rfl rfl zak rfl rfl (TL.miN (v:=(.agg _)) rfl zaI rfl rfl (xL2 15 zar rfl rfl (TL.both ?_ ?_)))))
 refine TL.callD [] [] (zci (p:=⟨1,k⟩)) ⟨rfl,rfl,rfl,trivial⟩ trivial zeh rfl rfl rfl rfl rfl (kL3 rfl rfl rfl trivial) (TL.tree (TT.fin (TL.alloc 22 (cs:=#[.int .i64 0,.int .i64 0,.int .i64 0,.nilIface,.int .i64 0,.int .i64 0,.int .i64 0,.int .i64 0,.int .i64 0,.nilIface]) zds rfl rfl rfl (fun _=>(kL3 rfl rfl rfl trivial)) (fun bk22=>(TL.stW 22 10 [_,_,_,_,_,_,_,_,_,_] rfl rfl rfl rfl rfl rfl zae rfl rfl (kL3 rfl rfl rfl trivial) (dA (xf 0 zaE rfl (xf 0 zan rfl (xf 6 zas rfl (xL4 22 zaP rfl rfl ?_))))))))))
 refine xf 1 zaB rfl (xli 2 zac rfl rfl (xf 2 zaA rfl (xli 2 zac rfl rfl (TL.callD [1] [1] (zcw zam hl) ⟨rfl,rfl,rfl,trivial⟩ ⟨rfl,trivial⟩ zdv rfl rfl rfl rfl rfl trivial (xmu rfl (xei rfl rfl (TL.ext (.bool _) rfl rfl rfl rfl (TL.ext (.bool _) rfl rfl rfl rfl ?_))))))))
 refine xai rfl (xab rfl (xab rfl (dA (xmp rfl (xL10 22 zae rfl rfl (TL.callD [0,1] [0,1] (zbM hl (hW1.edges hl)) ⟨rfl,rfl,trivial⟩ ⟨rfl,rfl,trivial⟩ zc4 rfl rfl rfl rfl rfl trivial (xai rfl (TL.done ?_))))))))
 refine TQ.then (TC.join (X:=M) [0,5,6] [0,2,15,21,22] (fun σ2=>[]) (fun σ2=>[(1,zaj ab mb 140 71 (σ2))]) (fun σ2=>∃ g2,Writ l pr ⟨1,k⟩ (parent l σ) (fun _=>k) σ2 g2∧Rch l ⟨1,k⟩ σ σ2) ?_ (fun σ2 hI=>?_))
 refine TC.block (sA (xf 0 zai rfl (xli 2 zac rfl rfl (TL.eql rfl rfl rfl rfl (fun q6=>?_) (fun q6=>?_)))))
 refine xmt rfl (xmb rfl (TL.cases rfl (fun q7=>?_) (fun q7=>?_)))
 refine xnt rfl (xpG rfl (xmf rfl (xo rfl (xo rfl (xpF rfl (xaf rfl (TL.done (TQ.then ?_))))))))
 refine TC.condF rfl (sA (xf 0 zai rfl (xli 2 zac rfl rfl (TL.eql rfl rfl rfl rfl (fun q8=>?_) (fun q8=>?_)))))
 refine xmt rfl (xmb rfl (TL.cases rfl (fun q9=>?_) (fun q9=>?_)))
 refine xpT rfl (xat rfl (TL.done (TQ.then (TC.condT rfl (TC.region (xL10 22 zae rfl rfl (xmi rfl ?_)))))))
 obtain ⟨t2,b2,o2,σ2,g2,hdel,hW2,hG2,hR2⟩:=hW1.delS hl hp ht ⟨by omega,by omega,by omega,by omega,by omega⟩ (by assumption) (by assumption)
 refine TL.callD [1] [1] (zau zam hl hdel) ⟨rfl,rfl,trivial⟩ ⟨rfl,trivial⟩ za7 rfl rfl rfl rfl rfl trivial (TL.done (TQ.inBlock (TQ.roundK (σ2) ⟨⟨g2,hW2,hR2⟩,Nat.zero_lt_one⟩ trivial ⟨rfl,trivial⟩ (kE3 rfl rfl rfl trivial) (kL5 rfl rfl rfl rfl rfl trivial))))
 refine xpG rfl (xaf rfl (TL.done (TQ.then (TC.condF rfl (sA (xaf rfl (dR (TQ.blockRet ?_))))))))
 refine TQ.thenRet ?_
 refine FQ.ret1 (v:=(.bool false)) (Bs:=[_,_]) [0,1] rfl rfl rfl ⟨rfl,rfl,trivial⟩ ?_
 first | exact ⟨false,_,rfl,rfl,.inl ⟨rfl,rfl⟩⟩ | (obtain rfl:x=l.nodes.toNat:=(by omega); exact ⟨true,_,rfl,rfl,.inr ⟨rfl,hC.updSt hl hp (by omega) hW2.rt.size hR2,_,hC.upd hl hp ht (by omega) hW2 hR2⟩⟩)
 refine xmf rfl (xo rfl (xpF rfl (xaf rfl (TL.done (TQ.then (TC.condF rfl (sA (xaf rfl ?_))))))))
 refine dR (TQ.blockRet (TQ.thenRet ?_))
 refine FQ.ret1 (v:=(.bool false)) (Bs:=[_,_]) [0,1] rfl rfl rfl ⟨rfl,rfl,trivial⟩ ?_
 first | exact ⟨false,_,rfl,rfl,.inl ⟨rfl,rfl⟩⟩ | (obtain rfl:x=l.nodes.toNat:=(by omega); exact ⟨true,_,rfl,rfl,.inr ⟨rfl,hC.updSt hl hp (by omega) hW2.rt.size hR2,_,hC.upd hl hp ht (by omega) hW2 hR2⟩⟩)
 refine xnf rfl (xpT rfl (xmt rfl (xmi rfl (TL.geq rfl rfl rfl rfl (fun q8=>?_) (fun q8=>?_)))))
 refine xpT rfl (xat rfl (TL.done (TQ.then (TC.condT rfl (TC.region (xL10 22 zae rfl rfl (xmi rfl (xf 1 zaB rfl ?_))))))))
 refine xli 2 zac rfl rfl (xf 2 zaA rfl (xli 2 zac rfl rfl ?_))
 obtain ⟨t2,σ2,g2,hins,hW2,hG2,hR2⟩:=hW1.insS hl hp ht ⟨by omega,by omega,by omega,by omega,by omega⟩ (by assumption) (by assumption) (by assumption)
 refine TL.callD [1] [1] (zbo zam hl hins) ⟨rfl,rfl,rfl,rfl,trivial⟩ ⟨rfl,trivial⟩ zeg rfl rfl rfl rfl rfl trivial (TL.done (TQ.inBlock (TQ.roundK (σ2) ⟨⟨g2,hW2,hR2⟩,Nat.zero_lt_one⟩ trivial ⟨rfl,trivial⟩ (kE3 rfl rfl rfl trivial) (kL5 rfl rfl rfl rfl rfl trivial))))
 refine xpG rfl (xaf rfl (TL.done (TQ.then (TC.condF rfl (sA (xf 0 zai rfl (xli 2 zac rfl rfl (TL.eql rfl rfl rfl rfl (fun q9=>?_) (fun q9=>?_)))))))))
 refine xmt rfl (xmb rfl (TL.cases rfl (fun q10=>?_) (fun q10=>?_)))
 refine xpT rfl (xat rfl (TL.done (TQ.then (TC.condT rfl (TC.region (xL10 22 zae rfl rfl (xmi rfl ?_)))))))
 obtain ⟨t2,b2,o2,σ2,g2,hdel,hW2,hG2,hR2⟩:=hW1.delS hl hp ht ⟨by omega,by omega,by omega,by omega,by omega⟩ (by assumption) (by assumption)
 refine TL.callD [1] [1] (zau zam hl hdel) ⟨rfl,rfl,trivial⟩ ⟨rfl,trivial⟩ za7 rfl rfl rfl rfl rfl trivial (TL.done (TQ.inBlock (TQ.roundK (σ2) ⟨⟨g2,hW2,hR2⟩,Nat.zero_lt_one⟩ trivial ⟨rfl,trivial⟩ (kE3 rfl rfl rfl trivial) (kL5 rfl rfl rfl rfl rfl trivial))))
 refine xpG rfl (xaf rfl (TL.done (TQ.then (TC.condF rfl (sA (xaf rfl (dR (TQ.blockRet ?_))))))))
 refine TQ.thenRet ?_
 refine FQ.ret1 (v:=(.bool false)) (Bs:=[_,_]) [0,1] rfl rfl rfl ⟨rfl,rfl,trivial⟩ ?_
 first | exact ⟨false,_,rfl,rfl,.inl ⟨rfl,rfl⟩⟩ | (obtain rfl:x=l.nodes.toNat:=(by omega); exact ⟨true,_,rfl,rfl,.inr ⟨rfl,hC.updSt hl hp (by omega) hW2.rt.size hR2,_,hC.upd hl hp ht (by omega) hW2 hR2⟩⟩)
 refine xmf rfl (xo rfl (xpF rfl (xaf rfl (TL.done (TQ.then (TC.condF rfl (sA (xaf rfl ?_))))))))
 refine dR (TQ.blockRet (TQ.thenRet ?_))
 refine FQ.ret1 (v:=(.bool false)) (Bs:=[_,_]) [0,1] rfl rfl rfl ⟨rfl,rfl,trivial⟩ ?_
 first | exact ⟨false,_,rfl,rfl,.inl ⟨rfl,rfl⟩⟩ | (obtain rfl:x=l.nodes.toNat:=(by omega); exact ⟨true,_,rfl,rfl,.inr ⟨rfl,hC.updSt hl hp (by omega) hW2.rt.size hR2,_,hC.upd hl hp ht (by omega) hW2 hR2⟩⟩)
 refine xmf rfl (xo rfl (xo rfl (xpF rfl (xmf rfl (xo rfl (xo rfl (xpF rfl (xaf rfl ?_))))))))
 refine TL.done (TQ.then (TC.condF rfl (sA (xf 0 zai rfl (xli 2 zac rfl rfl (TL.eql rfl rfl rfl rfl (fun q7=>?_) (fun q7=>?_)))))))
 refine xmt rfl (xmb rfl (TL.cases rfl (fun q8=>?_) (fun q8=>?_)))
 refine xpT rfl (xat rfl (TL.done (TQ.then (TC.condT rfl (TC.region (xL10 22 zae rfl rfl (xmi rfl ?_)))))))
 obtain ⟨t2,b2,o2,σ2,g2,hdel,hW2,hG2,hR2⟩:=hW1.delS hl hp ht ⟨by omega,by omega,by omega,by omega,by omega⟩ (by assumption) (by assumption)
 refine TL.callD [1] [1] (zau zam hl hdel) ⟨rfl,rfl,trivial⟩ ⟨rfl,trivial⟩ za7 rfl rfl rfl rfl rfl trivial (TL.done (TQ.inBlock (TQ.roundK (σ2) ⟨⟨g2,hW2,hR2⟩,Nat.zero_lt_one⟩ trivial ⟨rfl,trivial⟩ (kE3 rfl rfl rfl trivial) (kL5 rfl rfl rfl rfl rfl trivial))))
 refine xpG rfl (xaf rfl (TL.done (TQ.then (TC.condF rfl (sA (xaf rfl (dR (TQ.blockRet ?_))))))))
 refine TQ.thenRet ?_
 refine FQ.ret1 (v:=(.bool false)) (Bs:=[_,_]) [0,1] rfl rfl rfl ⟨rfl,rfl,trivial⟩ ?_
 first | exact ⟨false,_,rfl,rfl,.inl ⟨rfl,rfl⟩⟩ | (obtain rfl:x=l.nodes.toNat:=(by omega); exact ⟨true,_,rfl,rfl,.inr ⟨rfl,hC.updSt hl hp (by omega) hW2.rt.size hR2,_,hC.upd hl hp ht (by omega) hW2 hR2⟩⟩)
 refine xmf rfl (xo rfl (xpF rfl (xaf rfl (TL.done (TQ.then (TC.condF rfl (sA (xaf rfl ?_))))))))
 refine dR (TQ.blockRet (TQ.thenRet ?_))
 refine FQ.ret1 (v:=(.bool false)) (Bs:=[_,_]) [0,1] rfl rfl rfl ⟨rfl,rfl,trivial⟩ ?_
 first | exact ⟨false,_,rfl,rfl,.inl ⟨rfl,rfl⟩⟩ | (obtain rfl:x=l.nodes.toNat:=(by omega); exact ⟨true,_,rfl,rfl,.inr ⟨rfl,hC.updSt hl hp (by omega) hW2.rt.size hR2,_,hC.upd hl hp ht (by omega) hW2 hR2⟩⟩)
 obtain ⟨g2,hW2,hR2⟩:=hI
 refine TC.sub (env':=[(0,_),(5,_),(6,_)]) (L':=[(1,_),(0,_),(2,_),(15,_),(21,_),(22,_)]) ⟨rfl,rfl,rfl,trivial⟩ ⟨rfl,rfl,rfl,rfl,rfl,rfl,trivial⟩ (sB (xai rfl (dK (TC.loopK (X:=Nat) [0,5,6] [0,2,15,21,22] (fun x=>[(12,.int .i64 ((x+1:Nat):Int))]) (fun x=>[(1,zaj ab mb 140 71 (verN l ⟨1,k⟩ x σ2))]) (fun x=>(x:Int)≤l.nodes) (fun x=>l.nodes.toNat - x) (0) (by omega) ⟨rfl,trivial⟩ ⟨rfl,trivial⟩ (fun x hI=>(TC.sub (env':=[(12,_),(0,_),(5,_),(6,_)]) (L':=[(1,_),(0,_),(2,_),(15,_),(21,_),(22,_)]) ⟨rfl,rfl,rfl,rfl,trivial⟩ ⟨rfl,rfl,rfl,rfl,rfl,rfl,trivial⟩ (sB (xmi rfl (xmp rfl ?_)))))))))
 refine xN0 rfl (xf 0 zab rfl (xL3 0 zaa rfl rfl (TL.callD [] [] (zaV hl) ⟨rfl,trivial⟩ trivial zbE rfl rfl rfl rfl rfl trivial (TL.leq rfl rfl rfl rfl (fun q6=>?_) (fun q6=>?_)))))
 refine TL.done (TQ.then (TC.condT rfl (TC.skip (TQ.then (TC.seq (TC.block (sA (xmp rfl ?_))))))))
 refine xN0 rfl (xf 0 zab rfl (xL3 0 zaa rfl rfl (xmi rfl (TL.callD [] [] (zbj hl) ⟨rfl,rfl,trivial⟩ trivial zb1 rfl rfl rfl rfl rfl trivial (xmu rfl (TL.ext (.agg _) rfl rfl rfl rfl (TL.ext (.bool _) rfl rfl rfl rfl (TL.alloc 23 (cs:=#[.bool false,.int .i64 0,.int .i64 0,.int .i64 0,.int .i64 0]) zbw rfl rfl rfl (fun _=>trivial) (fun bk23=>?_)))))))))
 refine TL.stW 23 5 [_,_,_,_,_] rfl rfl rfl rfl rfl rfl zaQ rfl rfl trivial (xab rfl (dA (xf 1 zaS rfl (xli 23 zac rfl rfl (TL.eql rfl rfl rfl rfl (fun q7=>?_) (fun q7=>?_))))))
 refine dT rfl (xmp rfl (xN0 rfl (xf 0 zab rfl (xL3 0 zaa rfl rfl (xmi rfl (TL.callD [] [] (zay hl) ⟨rfl,rfl,rfl,trivial⟩ trivial zaW rfl rfl rfl rfl rfl trivial (xai rfl (TL.done ?_))))))))
 refine TQ.then (TC.draw [(0,true),(1,true),(2,true),(3,true),(4,true),(5,true),(6,true),(7,false),(8,true),(9,false)] [15,21] fc_m (by kernel_rfl) (xL2 15 zar rfl rfl (TL.ldA 21 1 [_] rfl rfl rfl zak rfl rfl (TL.miN (v:=(.agg _)) rfl zaI rfl rfl (xmi rfl (TL.ldA 21 1 [_] rfl rfl rfl zak rfl rfl (TL.miN (v:=(.agg _)) rfl zaI rfl rfl (xmi rfl ?_))))))))
 refine TL.callD [1] [1] (zdN zam) ⟨rfl,rfl,trivial⟩ ⟨rfl,trivial⟩ zcN rfl rfl rfl rfl rfl (kL2 rfl rfl trivial) (TL.add _ rfl rfl (rfl) rfl rfl (TL.callD [1] [1] (zb2 (p:=⟨1,k⟩) zam) ⟨rfl,rfl,rfl,rfl,trivial⟩ ⟨rfl,trivial⟩ zcO rfl rfl rfl rfl rfl (kL2 rfl rfl trivial) (dI (xmi rfl (TL.add (((x+2:Nat):Int)) rfl rfl (wrN (by omega)) rfl rfl (xai rfl (TL.done (TQ.roundK (x+1) ⟨(by omega),(by omega)⟩ ⟨rfl,trivial⟩ ⟨congrArg (fun z=>some (zaj ab mb 140 71 (z))) (by first | exact zbQ (by assumption) | exact zbR (by assumption)),trivial⟩ (kE3 rfl rfl rfl trivial) (kL5 rfl rfl rfl rfl rfl trivial)))))))))
 refine TL.done (TQ.then (TC.condF rfl (TC.skip (TQ.inBlock (TQ.then (TC.region (xmi rfl (TL.add (((x+2:Nat):Int)) rfl rfl (wrN (by omega)) rfl rfl ?_))))))))
 refine xai rfl (TL.done (TQ.roundK (x+1) ⟨(by omega),(by omega)⟩ ⟨rfl,trivial⟩ ⟨congrArg (fun z=>some (zaj ab mb 140 71 (z))) (by first | exact zbQ (by assumption) | exact zbR (by assumption)),trivial⟩ (kE3 rfl rfl rfl trivial) (kL5 rfl rfl rfl rfl rfl trivial)))
 refine dE rfl (sA (xat rfl (dR ?_)))
 refine FQ.ret1 (v:=(.bool true)) (Bs:=[_,_]) [0,1] rfl rfl rfl ⟨rfl,rfl,trivial⟩ ?_
 first | exact ⟨false,_,rfl,rfl,.inl ⟨rfl,rfl⟩⟩ | (obtain rfl:x=l.nodes.toNat:=(by omega); exact ⟨true,_,rfl,rfl,.inr ⟨rfl,hC.updSt hl hp (by omega) hW2.rt.size hR2,_,hC.upd hl hp ht (by omega) hW2 hR2⟩⟩)
 refine TL.alloc 24 (cs:=#[.int .i64 0,.int .i64 0,.int .i64 0,.nilIface,.int .i64 0,.int .i64 0,.int .i64 0,.int .i64 0,.int .i64 0,.nilIface]) zds rfl rfl rfl (fun _=>(kL3 rfl rfl rfl trivial)) (fun bk24=>(TL.tree (TT.fin (TL.callD [] [] (zci (p:=⟨1,k⟩)) ⟨rfl,rfl,rfl,trivial⟩ trivial zeh rfl rfl rfl rfl rfl (kL3 rfl rfl rfl trivial) (TL.stW 24 10 [_,_,_,_,_,_,_,_,_,_] rfl rfl rfl rfl rfl rfl zae rfl rfl (kL3 rfl rfl rfl trivial) (dA (xf 0 zaE rfl (xf 0 zan rfl (xf 6 zas rfl (xL4 24 zaP rfl rfl ?_))))))))))
 refine xf 1 zaB rfl (xli 2 zac rfl rfl (xf 2 zaA rfl (xli 2 zac rfl rfl (TL.callD [1] [1] (zcw zam hl) ⟨rfl,rfl,rfl,trivial⟩ ⟨rfl,trivial⟩ zdv rfl rfl rfl rfl rfl trivial (xmu rfl (xei rfl rfl (TL.ext (.bool _) rfl rfl rfl rfl (TL.ext (.bool _) rfl rfl rfl rfl ?_))))))))
 refine xai rfl (xab rfl (xab rfl (dA (xmp rfl (xL10 24 zae rfl rfl (TL.callD [0,1] [0,1] (zbM hl (hW1.edges hl)) ⟨rfl,rfl,trivial⟩ ⟨rfl,rfl,trivial⟩ zc4 rfl rfl rfl rfl rfl trivial (xai rfl (TL.done ?_))))))))
 refine TQ.then (TC.join (X:=M) [0,5,6] [0,2,15,21,24] (fun σ2=>[]) (fun σ2=>[(1,zaj ab mb 140 71 (σ2))]) (fun σ2=>∃ g2,Writ l pr ⟨1,k⟩ (parent l σ) (fun _=>k) σ2 g2∧Rch l ⟨1,k⟩ σ σ2) ?_ (fun σ2 hI=>?_))
 refine TC.block (sA (xf 0 zai rfl (xli 2 zac rfl rfl (TL.eql rfl rfl rfl rfl (fun q6=>?_) (fun q6=>?_)))))
 refine xmt rfl (xmb rfl (TL.cases rfl (fun q7=>?_) (fun q7=>?_)))
 refine xnt rfl (xpG rfl (xmf rfl (xo rfl (xo rfl (xpF rfl (xaf rfl (TL.done (TQ.then ?_))))))))
 refine TC.condF rfl (sA (xf 0 zai rfl (xli 2 zac rfl rfl (TL.eql rfl rfl rfl rfl (fun q8=>?_) (fun q8=>?_)))))
 refine xmt rfl (xmb rfl (TL.cases rfl (fun q9=>?_) (fun q9=>?_)))
 refine xpT rfl (xat rfl (TL.done (TQ.then (TC.condT rfl (TC.region (xL10 24 zae rfl rfl (xmi rfl ?_)))))))
 obtain ⟨t2,b2,o2,σ2,g2,hdel,hW2,hG2,hR2⟩:=hW1.delS hl hp ht ⟨by omega,by omega,by omega,by omega,by omega⟩ (by assumption) (by assumption)
 refine TL.callD [1] [1] (zau zam hl hdel) ⟨rfl,rfl,trivial⟩ ⟨rfl,trivial⟩ za7 rfl rfl rfl rfl rfl trivial (TL.done (TQ.inBlock (TQ.roundK (σ2) ⟨⟨g2,hW2,hR2⟩,Nat.zero_lt_one⟩ trivial ⟨rfl,trivial⟩ (kE3 rfl rfl rfl trivial) (kL5 rfl rfl rfl rfl rfl trivial))))
 refine xpG rfl (xaf rfl (TL.done (TQ.then (TC.condF rfl (sA (xaf rfl (dR (TQ.blockRet ?_))))))))
 refine TQ.thenRet ?_
 refine FQ.ret1 (v:=(.bool false)) (Bs:=[_,_]) [0,1] rfl rfl rfl ⟨rfl,rfl,trivial⟩ ?_
 first | exact ⟨false,_,rfl,rfl,.inl ⟨rfl,rfl⟩⟩ | (obtain rfl:x=l.nodes.toNat:=(by omega); exact ⟨true,_,rfl,rfl,.inr ⟨rfl,hC.updSt hl hp (by omega) hW2.rt.size hR2,_,hC.upd hl hp ht (by omega) hW2 hR2⟩⟩)
 refine xmf rfl (xo rfl (xpF rfl (xaf rfl (TL.done (TQ.then (TC.condF rfl (sA (xaf rfl ?_))))))))
 refine dR (TQ.blockRet (TQ.thenRet ?_))
 refine FQ.ret1 (v:=(.bool false)) (Bs:=[_,_]) [0,1] rfl rfl rfl ⟨rfl,rfl,trivial⟩ ?_
 first | exact ⟨false,_,rfl,rfl,.inl ⟨rfl,rfl⟩⟩ | (obtain rfl:x=l.nodes.toNat:=(by omega); exact ⟨true,_,rfl,rfl,.inr ⟨rfl,hC.updSt hl hp (by omega) hW2.rt.size hR2,_,hC.upd hl hp ht (by omega) hW2 hR2⟩⟩)
 refine xnf rfl (xpT rfl (xmt rfl (xmi rfl (TL.geq rfl rfl rfl rfl (fun q8=>?_) (fun q8=>?_)))))
 refine xpT rfl (xat rfl (TL.done (TQ.then (TC.condT rfl (TC.region (xL10 24 zae rfl rfl (xmi rfl (xf 1 zaB rfl ?_))))))))
 refine xli 2 zac rfl rfl (xf 2 zaA rfl (xli 2 zac rfl rfl ?_))
 obtain ⟨t2,σ2,g2,hins,hW2,hG2,hR2⟩:=hW1.insS hl hp ht ⟨by omega,by omega,by omega,by omega,by omega⟩ (by assumption) (by assumption) (by assumption)
 refine TL.callD [1] [1] (zbo zam hl hins) ⟨rfl,rfl,rfl,rfl,trivial⟩ ⟨rfl,trivial⟩ zeg rfl rfl rfl rfl rfl trivial (TL.done (TQ.inBlock (TQ.roundK (σ2) ⟨⟨g2,hW2,hR2⟩,Nat.zero_lt_one⟩ trivial ⟨rfl,trivial⟩ (kE3 rfl rfl rfl trivial) (kL5 rfl rfl rfl rfl rfl trivial))))
 refine xpG rfl (xaf rfl (TL.done (TQ.then (TC.condF rfl (sA (xf 0 zai rfl (xli 2 zac rfl rfl (TL.eql rfl rfl rfl rfl (fun q9=>?_) (fun q9=>?_)))))))))
 refine xmt rfl (xmb rfl (TL.cases rfl (fun q10=>?_) (fun q10=>?_)))
 refine xpT rfl (xat rfl (TL.done (TQ.then (TC.condT rfl (TC.region (xL10 24 zae rfl rfl (xmi rfl ?_)))))))
 obtain ⟨t2,b2,o2,σ2,g2,hdel,hW2,hG2,hR2⟩:=hW1.delS hl hp ht ⟨by omega,by omega,by omega,by omega,by omega⟩ (by assumption) (by assumption)
 refine TL.callD [1] [1] (zau zam hl hdel) ⟨rfl,rfl,trivial⟩ ⟨rfl,trivial⟩ za7 rfl rfl rfl rfl rfl trivial (TL.done (TQ.inBlock (TQ.roundK (σ2) ⟨⟨g2,hW2,hR2⟩,Nat.zero_lt_one⟩ trivial ⟨rfl,trivial⟩ (kE3 rfl rfl rfl trivial) (kL5 rfl rfl rfl rfl rfl trivial))))
 refine xpG rfl (xaf rfl (TL.done (TQ.then (TC.condF rfl (sA (xaf rfl (dR (TQ.blockRet ?_))))))))
 refine TQ.thenRet ?_
 refine FQ.ret1 (v:=(.bool false)) (Bs:=[_,_]) [0,1] rfl rfl rfl ⟨rfl,rfl,trivial⟩ ?_
 first | exact ⟨false,_,rfl,rfl,.inl ⟨rfl,rfl⟩⟩ | (obtain rfl:x=l.nodes.toNat:=(by omega); exact ⟨true,_,rfl,rfl,.inr ⟨rfl,hC.updSt hl hp (by omega) hW2.rt.size hR2,_,hC.upd hl hp ht (by omega) hW2 hR2⟩⟩)
 refine xmf rfl (xo rfl (xpF rfl (xaf rfl (TL.done (TQ.then (TC.condF rfl (sA (xaf rfl ?_))))))))
 refine dR (TQ.blockRet (TQ.thenRet ?_))
 refine FQ.ret1 (v:=(.bool false)) (Bs:=[_,_]) [0,1] rfl rfl rfl ⟨rfl,rfl,trivial⟩ ?_
 first | exact ⟨false,_,rfl,rfl,.inl ⟨rfl,rfl⟩⟩ | (obtain rfl:x=l.nodes.toNat:=(by omega); exact ⟨true,_,rfl,rfl,.inr ⟨rfl,hC.updSt hl hp (by omega) hW2.rt.size hR2,_,hC.upd hl hp ht (by omega) hW2 hR2⟩⟩)
 refine xmf rfl (xo rfl (xo rfl (xpF rfl (xmf rfl (xo rfl (xo rfl (xpF rfl (xaf rfl ?_))))))))
 refine TL.done (TQ.then (TC.condF rfl (sA (xf 0 zai rfl (xli 2 zac rfl rfl (TL.eql rfl rfl rfl rfl (fun q7=>?_) (fun q7=>?_)))))))
 refine xmt rfl (xmb rfl (TL.cases rfl (fun q8=>?_) (fun q8=>?_)))
 refine xpT rfl (xat rfl (TL.done (TQ.then (TC.condT rfl (TC.region (xL10 24 zae rfl rfl (xmi rfl ?_)))))))
 obtain ⟨t2,b2,o2,σ2,g2,hdel,hW2,hG2,hR2⟩:=hW1.delS hl hp ht ⟨by omega,by omega,by omega,by omega,by omega⟩ (by assumption) (by assumption)
 refine TL.callD [1] [1] (zau zam hl hdel) ⟨rfl,rfl,trivial⟩ ⟨rfl,trivial⟩ za7 rfl rfl rfl rfl rfl trivial (TL.done (TQ.inBlock (TQ.roundK (σ2) ⟨⟨g2,hW2,hR2⟩,Nat.zero_lt_one⟩ trivial ⟨rfl,trivial⟩ (kE3 rfl rfl rfl trivial) (kL5 rfl rfl rfl rfl rfl trivial))))
 refine xpG rfl (xaf rfl (TL.done (TQ.then (TC.condF rfl (sA (xaf rfl (dR (TQ.blockRet ?_))))))))
 refine TQ.thenRet ?_
 refine FQ.ret1 (v:=(.bool false)) (Bs:=[_,_]) [0,1] rfl rfl rfl ⟨rfl,rfl,trivial⟩ ?_
 first | exact ⟨false,_,rfl,rfl,.inl ⟨rfl,rfl⟩⟩ | (obtain rfl:x=l.nodes.toNat:=(by omega); exact ⟨true,_,rfl,rfl,.inr ⟨rfl,hC.updSt hl hp (by omega) hW2.rt.size hR2,_,hC.upd hl hp ht (by omega) hW2 hR2⟩⟩)
 refine xmf rfl (xo rfl (xpF rfl (xaf rfl (TL.done (TQ.then (TC.condF rfl (sA (xaf rfl ?_))))))))
 refine dR (TQ.blockRet (TQ.thenRet ?_))
 refine FQ.ret1 (v:=(.bool false)) (Bs:=[_,_]) [0,1] rfl rfl rfl ⟨rfl,rfl,trivial⟩ ?_
 first | exact ⟨false,_,rfl,rfl,.inl ⟨rfl,rfl⟩⟩ | (obtain rfl:x=l.nodes.toNat:=(by omega); exact ⟨true,_,rfl,rfl,.inr ⟨rfl,hC.updSt hl hp (by omega) hW2.rt.size hR2,_,hC.upd hl hp ht (by omega) hW2 hR2⟩⟩)
 obtain ⟨g2,hW2,hR2⟩:=hI
 refine TC.sub (env':=[(0,_),(5,_),(6,_)]) (L':=[(1,_),(0,_),(2,_),(15,_),(21,_),(24,_)]) ⟨rfl,rfl,rfl,trivial⟩ ⟨rfl,rfl,rfl,rfl,rfl,rfl,trivial⟩ (sB (xai rfl (dK (TC.loopK (X:=Nat) [0,5,6] [0,2,15,21,24] (fun x=>[(12,.int .i64 ((x+1:Nat):Int))]) (fun x=>[(1,zaj ab mb 140 71 (verN l ⟨1,k⟩ x σ2))]) (fun x=>(x:Int)≤l.nodes) (fun x=>l.nodes.toNat - x) (0) (by omega) ⟨rfl,trivial⟩ ⟨rfl,trivial⟩ (fun x hI=>(TC.sub (env':=[(12,_),(0,_),(5,_),(6,_)]) (L':=[(1,_),(0,_),(2,_),(15,_),(21,_),(24,_)]) ⟨rfl,rfl,rfl,rfl,trivial⟩ ⟨rfl,rfl,rfl,rfl,rfl,rfl,trivial⟩ (sB (xmi rfl (xmp rfl ?_)))))))))
 refine xN0 rfl (xf 0 zab rfl (xL3 0 zaa rfl rfl (TL.callD [] [] (zaV hl) ⟨rfl,trivial⟩ trivial zbE rfl rfl rfl rfl rfl trivial (TL.leq rfl rfl rfl rfl (fun q6=>?_) (fun q6=>?_)))))
 refine TL.done (TQ.then (TC.condT rfl (TC.skip (TQ.then (TC.seq (TC.block (sA (xmp rfl ?_))))))))
 refine xN0 rfl (xf 0 zab rfl (xL3 0 zaa rfl rfl (xmi rfl (TL.callD [] [] (zbj hl) ⟨rfl,rfl,trivial⟩ trivial zb1 rfl rfl rfl rfl rfl trivial (xmu rfl (TL.ext (.agg _) rfl rfl rfl rfl (TL.ext (.bool _) rfl rfl rfl rfl (TL.alloc 25 (cs:=#[.bool false,.int .i64 0,.int .i64 0,.int .i64 0,.int .i64 0]) zbw rfl rfl rfl (fun _=>trivial) (fun bk25=>?_)))))))))
 refine TL.stW 25 5 [_,_,_,_,_] rfl rfl rfl rfl rfl rfl zaQ rfl rfl trivial (xab rfl (dA (xf 1 zaS rfl (xli 25 zac rfl rfl (TL.eql rfl rfl rfl rfl (fun q7=>?_) (fun q7=>?_))))))
 refine dT rfl (xmp rfl (xN0 rfl (xf 0 zab rfl (xL3 0 zaa rfl rfl (xmi rfl (TL.callD [] [] (zay hl) ⟨rfl,rfl,rfl,trivial⟩ trivial zaW rfl rfl rfl rfl rfl trivial (xai rfl (TL.done ?_))))))))
 refine TQ.then (TC.draw [(0,true),(1,true),(2,true),(3,true),(4,true),(5,true),(6,true),(7,false),(8,true),(9,false)] [15,21] fc_m (by kernel_rfl) (xL2 15 zar rfl rfl (TL.ldA 21 1 [_] rfl rfl rfl zak rfl rfl (TL.miN (v:=(.agg _)) rfl zaI rfl rfl (xmi rfl (TL.ldA 21 1 [_] rfl rfl rfl zak rfl rfl (TL.miN (v:=(.agg _)) rfl zaI rfl rfl (xmi rfl ?_))))))))
 refine TL.callD [1] [1] (zdN zam) ⟨rfl,rfl,trivial⟩ ⟨rfl,trivial⟩ zcN rfl rfl rfl rfl rfl (kL2 rfl rfl trivial) (TL.add _ rfl rfl (rfl) rfl rfl (TL.callD [1] [1] (zb2 (p:=⟨1,k⟩) zam) ⟨rfl,rfl,rfl,rfl,trivial⟩ ⟨rfl,trivial⟩ zcO rfl rfl rfl rfl rfl (kL2 rfl rfl trivial) (dI (xmi rfl (TL.add (((x+2:Nat):Int)) rfl rfl (wrN (by omega)) rfl rfl (xai rfl (TL.done (TQ.roundK (x+1) ⟨(by omega),(by omega)⟩ ⟨rfl,trivial⟩ ⟨congrArg (fun z=>some (zaj ab mb 140 71 (z))) (by first | exact zbQ (by assumption) | exact zbR (by assumption)),trivial⟩ (kE3 rfl rfl rfl trivial) (kL5 rfl rfl rfl rfl rfl trivial)))))))))
 refine TL.done (TQ.then (TC.condF rfl (TC.skip (TQ.inBlock (TQ.then (TC.region (xmi rfl (TL.add (((x+2:Nat):Int)) rfl rfl (wrN (by omega)) rfl rfl ?_))))))))
 refine xai rfl (TL.done (TQ.roundK (x+1) ⟨(by omega),(by omega)⟩ ⟨rfl,trivial⟩ ⟨congrArg (fun z=>some (zaj ab mb 140 71 (z))) (by first | exact zbQ (by assumption) | exact zbR (by assumption)),trivial⟩ (kE3 rfl rfl rfl trivial) (kL5 rfl rfl rfl rfl rfl trivial)))
 refine dE rfl (sA (xat rfl (dR ?_)))
 refine FQ.ret1 (v:=(.bool true)) (Bs:=[_,_]) [0,1] rfl rfl rfl ⟨rfl,rfl,trivial⟩ ?_
 first | exact ⟨false,_,rfl,rfl,.inl ⟨rfl,rfl⟩⟩ | (obtain rfl:x=l.nodes.toNat:=(by omega); exact ⟨true,_,rfl,rfl,.inr ⟨rfl,hC.updSt hl hp (by omega) hW2.rt.size hR2,_,hC.upd hl hp ht (by omega) hW2 hR2⟩⟩)
 refine TL.alloc 26 (cs:=#[.pointer none]) zdQ rfl rfl rfl (fun _=>(kL1 rfl trivial)) (fun bk26=>(TL.tree (TT.br (TL.both ?_ ?_))))
 refine TL.callD [] [] zbT ⟨rfl,trivial⟩ trivial zdw rfl rfl rfl rfl rfl (kL1 rfl trivial) (TL.tree (TT.fin (TL.alloc 27 (cs:=#[.int .i64 0,.int .i64 0]) zdR rfl rfl rfl (fun _=>(kL1 rfl trivial)) (fun bk27=>(TL.stW 27 2 [_,_] rfl rfl rfl rfl rfl rfl zar rfl rfl (kL1 rfl trivial) (TL.stW 26 1 [_] rfl rfl rfl rfl rfl rfl zak rfl rfl (kL1 rfl trivial) (dS (TC.drawT (.br [(0,true),(1,true),(2,true),(3,true),(4,true),(5,true),(6,true)] 7 8 (.fin [(8,false),(9,false)]) (.fin [(7,false),(9,false)])) [0,26,27] fc_m (by kernel_rfl) (TT.br (xmp rfl (xN0 rfl ?_)))))))))))
 refine xf 0 zab rfl (xL3 0 zaa rfl rfl (TL.ldA 26 1 [_] rfl rfl rfl zak rfl rfl (TL.miN (v:=(.agg _)) rfl zaI rfl rfl (xL2 27 zar rfl rfl (TL.both ?_ ?_)))))
 refine TL.callD [] [] (zci (p:=⟨1,k⟩)) ⟨rfl,rfl,rfl,trivial⟩ trivial zeh rfl rfl rfl rfl rfl (kL3 rfl rfl rfl trivial) (TL.tree (TT.fin (TL.alloc 28 (cs:=#[.int .i64 0,.int .i64 0,.int .i64 0,.nilIface,.int .i64 0,.int .i64 0,.int .i64 0,.int .i64 0,.int .i64 0,.nilIface]) zds rfl rfl rfl (fun _=>(kL3 rfl rfl rfl trivial)) (fun bk28=>(TL.stW 28 10 [_,_,_,_,_,_,_,_,_,_] rfl rfl rfl rfl rfl rfl zae rfl rfl (kL3 rfl rfl rfl trivial) (dA (xf 0 zaE rfl (xf 0 zan rfl (xf 6 zas rfl (xL4 28 zaP rfl rfl ?_))))))))))
 refine xf 1 zaB rfl (xli 2 zac rfl rfl (xf 2 zaA rfl (xli 2 zac rfl rfl (TL.callD [1] [1] (zcw zam hl) ⟨rfl,rfl,rfl,trivial⟩ ⟨rfl,trivial⟩ zdv rfl rfl rfl rfl rfl trivial (xmu rfl (xei rfl rfl (TL.ext (.bool _) rfl rfl rfl rfl (TL.ext (.bool _) rfl rfl rfl rfl ?_))))))))
 refine xai rfl (xab rfl (xab rfl (dA (xmp rfl (xL10 28 zae rfl rfl (TL.callD [0,1] [0,1] (zbM hl (hW1.edges hl)) ⟨rfl,rfl,trivial⟩ ⟨rfl,rfl,trivial⟩ zc4 rfl rfl rfl rfl rfl trivial (xai rfl (TL.done ?_))))))))
 refine TQ.then (TC.join (X:=M) [0,5,6] [0,2,26,27,28] (fun σ2=>[]) (fun σ2=>[(1,zaj ab mb 140 71 (σ2))]) (fun σ2=>∃ g2,Writ l pr ⟨1,k⟩ (parent l σ) (fun _=>k) σ2 g2∧Rch l ⟨1,k⟩ σ σ2) ?_ (fun σ2 hI=>?_))
 refine TC.block (sA (xf 0 zai rfl (xli 2 zac rfl rfl (TL.eql rfl rfl rfl rfl (fun q6=>?_) (fun q6=>?_)))))
 refine xmt rfl (xmb rfl (TL.cases rfl (fun q7=>?_) (fun q7=>?_)))
 refine xnt rfl (xpG rfl (xmf rfl (xo rfl (xo rfl (xpF rfl (xaf rfl (TL.done (TQ.then ?_))))))))
 refine TC.condF rfl (sA (xf 0 zai rfl (xli 2 zac rfl rfl (TL.eql rfl rfl rfl rfl (fun q8=>?_) (fun q8=>?_)))))
 refine xmt rfl (xmb rfl (TL.cases rfl (fun q9=>?_) (fun q9=>?_)))
 refine xpT rfl (xat rfl (TL.done (TQ.then (TC.condT rfl (TC.region (xL10 28 zae rfl rfl (xmi rfl ?_)))))))
 obtain ⟨t2,b2,o2,σ2,g2,hdel,hW2,hG2,hR2⟩:=hW1.delS hl hp ht ⟨by omega,by omega,by omega,by omega,by omega⟩ (by assumption) (by assumption)
 refine TL.callD [1] [1] (zau zam hl hdel) ⟨rfl,rfl,trivial⟩ ⟨rfl,trivial⟩ za7 rfl rfl rfl rfl rfl trivial (TL.done (TQ.inBlock (TQ.roundK (σ2) ⟨⟨g2,hW2,hR2⟩,Nat.zero_lt_one⟩ trivial ⟨rfl,trivial⟩ (kE3 rfl rfl rfl trivial) (kL5 rfl rfl rfl rfl rfl trivial))))
 refine xpG rfl (xaf rfl (TL.done (TQ.then (TC.condF rfl (sA (xaf rfl (dR (TQ.blockRet ?_))))))))
 refine TQ.thenRet ?_
 refine FQ.ret1 (v:=(.bool false)) (Bs:=[_,_]) [0,1] rfl rfl rfl ⟨rfl,rfl,trivial⟩ ?_
 first | exact ⟨false,_,rfl,rfl,.inl ⟨rfl,rfl⟩⟩ | (obtain rfl:x=l.nodes.toNat:=(by omega); exact ⟨true,_,rfl,rfl,.inr ⟨rfl,hC.updSt hl hp (by omega) hW2.rt.size hR2,_,hC.upd hl hp ht (by omega) hW2 hR2⟩⟩)
 refine xmf rfl (xo rfl (xpF rfl (xaf rfl (TL.done (TQ.then (TC.condF rfl (sA (xaf rfl ?_))))))))
 refine dR (TQ.blockRet (TQ.thenRet ?_))
 refine FQ.ret1 (v:=(.bool false)) (Bs:=[_,_]) [0,1] rfl rfl rfl ⟨rfl,rfl,trivial⟩ ?_
 first | exact ⟨false,_,rfl,rfl,.inl ⟨rfl,rfl⟩⟩ | (obtain rfl:x=l.nodes.toNat:=(by omega); exact ⟨true,_,rfl,rfl,.inr ⟨rfl,hC.updSt hl hp (by omega) hW2.rt.size hR2,_,hC.upd hl hp ht (by omega) hW2 hR2⟩⟩)
 refine xnf rfl (xpT rfl (xmt rfl (xmi rfl (TL.geq rfl rfl rfl rfl (fun q8=>?_) (fun q8=>?_)))))
 refine xpT rfl (xat rfl (TL.done (TQ.then (TC.condT rfl (TC.region (xL10 28 zae rfl rfl (xmi rfl (xf 1 zaB rfl ?_))))))))
 refine xli 2 zac rfl rfl (xf 2 zaA rfl (xli 2 zac rfl rfl ?_))
 obtain ⟨t2,σ2,g2,hins,hW2,hG2,hR2⟩:=hW1.insS hl hp ht ⟨by omega,by omega,by omega,by omega,by omega⟩ (by assumption) (by assumption) (by assumption)
 refine TL.callD [1] [1] (zbo zam hl hins) ⟨rfl,rfl,rfl,rfl,trivial⟩ ⟨rfl,trivial⟩ zeg rfl rfl rfl rfl rfl trivial (TL.done (TQ.inBlock (TQ.roundK (σ2) ⟨⟨g2,hW2,hR2⟩,Nat.zero_lt_one⟩ trivial ⟨rfl,trivial⟩ (kE3 rfl rfl rfl trivial) (kL5 rfl rfl rfl rfl rfl trivial))))
 refine xpG rfl (xaf rfl (TL.done (TQ.then (TC.condF rfl (sA (xf 0 zai rfl (xli 2 zac rfl rfl (TL.eql rfl rfl rfl rfl (fun q9=>?_) (fun q9=>?_)))))))))
 refine xmt rfl (xmb rfl (TL.cases rfl (fun q10=>?_) (fun q10=>?_)))
 refine xpT rfl (xat rfl (TL.done (TQ.then (TC.condT rfl (TC.region (xL10 28 zae rfl rfl (xmi rfl ?_)))))))
 obtain ⟨t2,b2,o2,σ2,g2,hdel,hW2,hG2,hR2⟩:=hW1.delS hl hp ht ⟨by omega,by omega,by omega,by omega,by omega⟩ (by assumption) (by assumption)
 refine TL.callD [1] [1] (zau zam hl hdel) ⟨rfl,rfl,trivial⟩ ⟨rfl,trivial⟩ za7 rfl rfl rfl rfl rfl trivial (TL.done (TQ.inBlock (TQ.roundK (σ2) ⟨⟨g2,hW2,hR2⟩,Nat.zero_lt_one⟩ trivial ⟨rfl,trivial⟩ (kE3 rfl rfl rfl trivial) (kL5 rfl rfl rfl rfl rfl trivial))))
 refine xpG rfl (xaf rfl (TL.done (TQ.then (TC.condF rfl (sA (xaf rfl (dR (TQ.blockRet ?_))))))))
 refine TQ.thenRet ?_
 refine FQ.ret1 (v:=(.bool false)) (Bs:=[_,_]) [0,1] rfl rfl rfl ⟨rfl,rfl,trivial⟩ ?_
 first | exact ⟨false,_,rfl,rfl,.inl ⟨rfl,rfl⟩⟩ | (obtain rfl:x=l.nodes.toNat:=(by omega); exact ⟨true,_,rfl,rfl,.inr ⟨rfl,hC.updSt hl hp (by omega) hW2.rt.size hR2,_,hC.upd hl hp ht (by omega) hW2 hR2⟩⟩)
 refine xmf rfl (xo rfl (xpF rfl (xaf rfl (TL.done (TQ.then (TC.condF rfl (sA (xaf rfl ?_))))))))
 refine dR (TQ.blockRet (TQ.thenRet ?_))
 refine FQ.ret1 (v:=(.bool false)) (Bs:=[_,_]) [0,1] rfl rfl rfl ⟨rfl,rfl,trivial⟩ ?_
 first | exact ⟨false,_,rfl,rfl,.inl ⟨rfl,rfl⟩⟩ | (obtain rfl:x=l.nodes.toNat:=(by omega); exact ⟨true,_,rfl,rfl,.inr ⟨rfl,hC.updSt hl hp (by omega) hW2.rt.size hR2,_,hC.upd hl hp ht (by omega) hW2 hR2⟩⟩)
 refine xmf rfl (xo rfl (xo rfl (xpF rfl (xmf rfl (xo rfl (xo rfl (xpF rfl (xaf rfl ?_))))))))
 refine TL.done (TQ.then (TC.condF rfl (sA (xf 0 zai rfl (xli 2 zac rfl rfl (TL.eql rfl rfl rfl rfl (fun q7=>?_) (fun q7=>?_)))))))
 refine xmt rfl (xmb rfl (TL.cases rfl (fun q8=>?_) (fun q8=>?_)))
 refine xpT rfl (xat rfl (TL.done (TQ.then (TC.condT rfl (TC.region (xL10 28 zae rfl rfl (xmi rfl ?_)))))))
 obtain ⟨t2,b2,o2,σ2,g2,hdel,hW2,hG2,hR2⟩:=hW1.delS hl hp ht ⟨by omega,by omega,by omega,by omega,by omega⟩ (by assumption) (by assumption)
 refine TL.callD [1] [1] (zau zam hl hdel) ⟨rfl,rfl,trivial⟩ ⟨rfl,trivial⟩ za7 rfl rfl rfl rfl rfl trivial (TL.done (TQ.inBlock (TQ.roundK (σ2) ⟨⟨g2,hW2,hR2⟩,Nat.zero_lt_one⟩ trivial ⟨rfl,trivial⟩ (kE3 rfl rfl rfl trivial) (kL5 rfl rfl rfl rfl rfl trivial))))
 refine xpG rfl (xaf rfl (TL.done (TQ.then (TC.condF rfl (sA (xaf rfl (dR (TQ.blockRet ?_))))))))
 refine TQ.thenRet ?_
 refine FQ.ret1 (v:=(.bool false)) (Bs:=[_,_]) [0,1] rfl rfl rfl ⟨rfl,rfl,trivial⟩ ?_
 first | exact ⟨false,_,rfl,rfl,.inl ⟨rfl,rfl⟩⟩ | (obtain rfl:x=l.nodes.toNat:=(by omega); exact ⟨true,_,rfl,rfl,.inr ⟨rfl,hC.updSt hl hp (by omega) hW2.rt.size hR2,_,hC.upd hl hp ht (by omega) hW2 hR2⟩⟩)
 refine xmf rfl (xo rfl (xpF rfl (xaf rfl (TL.done (TQ.then (TC.condF rfl (sA (xaf rfl ?_))))))))
 refine dR (TQ.blockRet (TQ.thenRet ?_))
 refine FQ.ret1 (v:=(.bool false)) (Bs:=[_,_]) [0,1] rfl rfl rfl ⟨rfl,rfl,trivial⟩ ?_
 first | exact ⟨false,_,rfl,rfl,.inl ⟨rfl,rfl⟩⟩ | (obtain rfl:x=l.nodes.toNat:=(by omega); exact ⟨true,_,rfl,rfl,.inr ⟨rfl,hC.updSt hl hp (by omega) hW2.rt.size hR2,_,hC.upd hl hp ht (by omega) hW2 hR2⟩⟩)
 obtain ⟨g2,hW2,hR2⟩:=hI
 refine TC.sub (env':=[(0,_),(5,_),(6,_)]) (L':=[(1,_),(0,_),(2,_),(26,_),(27,_),(28,_)]) ⟨rfl,rfl,rfl,trivial⟩ ⟨rfl,rfl,rfl,rfl,rfl,rfl,trivial⟩ (sB (xai rfl (dK (TC.loopK (X:=Nat) [0,5,6] [0,2,26,27,28] (fun x=>[(12,.int .i64 ((x+1:Nat):Int))]) (fun x=>[(1,zaj ab mb 140 71 (verN l ⟨1,k⟩ x σ2))]) (fun x=>(x:Int)≤l.nodes) (fun x=>l.nodes.toNat - x) (0) (by omega) ⟨rfl,trivial⟩ ⟨rfl,trivial⟩ (fun x hI=>(TC.sub (env':=[(12,_),(0,_),(5,_),(6,_)]) (L':=[(1,_),(0,_),(2,_),(26,_),(27,_),(28,_)]) ⟨rfl,rfl,rfl,rfl,trivial⟩ ⟨rfl,rfl,rfl,rfl,rfl,rfl,trivial⟩ (sB (xmi rfl (xmp rfl ?_)))))))))
 refine xN0 rfl (xf 0 zab rfl (xL3 0 zaa rfl rfl (TL.callD [] [] (zaV hl) ⟨rfl,trivial⟩ trivial zbE rfl rfl rfl rfl rfl trivial (TL.leq rfl rfl rfl rfl (fun q6=>?_) (fun q6=>?_)))))
 refine TL.done (TQ.then (TC.condT rfl (TC.skip (TQ.then (TC.seq (TC.block (sA (xmp rfl ?_))))))))
 refine xN0 rfl (xf 0 zab rfl (xL3 0 zaa rfl rfl (xmi rfl (TL.callD [] [] (zbj hl) ⟨rfl,rfl,trivial⟩ trivial zb1 rfl rfl rfl rfl rfl trivial (xmu rfl (TL.ext (.agg _) rfl rfl rfl rfl (TL.ext (.bool _) rfl rfl rfl rfl (TL.alloc 29 (cs:=#[.bool false,.int .i64 0,.int .i64 0,.int .i64 0,.int .i64 0]) zbw rfl rfl rfl (fun _=>trivial) (fun bk29=>?_)))))))))
 refine TL.stW 29 5 [_,_,_,_,_] rfl rfl rfl rfl rfl rfl zaQ rfl rfl trivial (xab rfl (dA (xf 1 zaS rfl (xli 29 zac rfl rfl (TL.eql rfl rfl rfl rfl (fun q7=>?_) (fun q7=>?_))))))
 refine dT rfl (xmp rfl (xN0 rfl (xf 0 zab rfl (xL3 0 zaa rfl rfl (xmi rfl (TL.callD [] [] (zay hl) ⟨rfl,rfl,rfl,trivial⟩ trivial zaW rfl rfl rfl rfl rfl trivial (xai rfl (TL.done ?_))))))))
 refine TQ.then (TC.draw [(0,true),(1,true),(2,true),(3,true),(4,true),(5,true),(6,true),(7,false),(8,true),(9,false)] [26,27] fc_m (by kernel_rfl) (xL2 27 zar rfl rfl (TL.ldA 26 1 [_] rfl rfl rfl zak rfl rfl (TL.miN (v:=(.agg _)) rfl zaI rfl rfl (xmi rfl (TL.ldA 26 1 [_] rfl rfl rfl zak rfl rfl (TL.miN (v:=(.agg _)) rfl zaI rfl rfl (xmi rfl ?_))))))))
 refine TL.callD [1] [1] (zdN zam) ⟨rfl,rfl,trivial⟩ ⟨rfl,trivial⟩ zcN rfl rfl rfl rfl rfl (kL2 rfl rfl trivial) (TL.add _ rfl rfl (rfl) rfl rfl (TL.callD [1] [1] (zb2 (p:=⟨1,k⟩) zam) ⟨rfl,rfl,rfl,rfl,trivial⟩ ⟨rfl,trivial⟩ zcO rfl rfl rfl rfl rfl (kL2 rfl rfl trivial) (dI (xmi rfl (TL.add (((x+2:Nat):Int)) rfl rfl (wrN (by omega)) rfl rfl (xai rfl (TL.done (TQ.roundK (x+1) ⟨(by omega),(by omega)⟩ ⟨rfl,trivial⟩ ⟨congrArg (fun z=>some (zaj ab mb 140 71 (z))) (by first | exact zbQ (by assumption) | exact zbR (by assumption)),trivial⟩ (kE3 rfl rfl rfl trivial) (kL5 rfl rfl rfl rfl rfl trivial)))))))))
 refine TL.done (TQ.then (TC.condF rfl (TC.skip (TQ.inBlock (TQ.then (TC.region (xmi rfl (TL.add (((x+2:Nat):Int)) rfl rfl (wrN (by omega)) rfl rfl ?_))))))))
 refine xai rfl (TL.done (TQ.roundK (x+1) ⟨(by omega),(by omega)⟩ ⟨rfl,trivial⟩ ⟨congrArg (fun z=>some (zaj ab mb 140 71 (z))) (by first | exact zbQ (by assumption) | exact zbR (by assumption)),trivial⟩ (kE3 rfl rfl rfl trivial) (kL5 rfl rfl rfl rfl rfl trivial)))
 refine dE rfl (sA (xat rfl (dR ?_)))
 refine FQ.ret1 (v:=(.bool true)) (Bs:=[_,_]) [0,1] rfl rfl rfl ⟨rfl,rfl,trivial⟩ ?_
 first | exact ⟨false,_,rfl,rfl,.inl ⟨rfl,rfl⟩⟩ | (obtain rfl:x=l.nodes.toNat:=(by omega); exact ⟨true,_,rfl,rfl,.inr ⟨rfl,hC.updSt hl hp (by omega) hW2.rt.size hR2,_,hC.upd hl hp ht (by omega) hW2 hR2⟩⟩)
 refine TL.alloc 30 (cs:=#[.int .i64 0,.int .i64 0,.int .i64 0,.nilIface,.int .i64 0,.int .i64 0,.int .i64 0,.int .i64 0,.int .i64 0,.nilIface]) zds rfl rfl rfl (fun _=>(kL3 rfl rfl rfl trivial)) (fun bk30=>(TL.tree (TT.fin (TL.callD [] [] (zci (p:=⟨1,k⟩)) ⟨rfl,rfl,rfl,trivial⟩ trivial zeh rfl rfl rfl rfl rfl (kL3 rfl rfl rfl trivial) (TL.stW 30 10 [_,_,_,_,_,_,_,_,_,_] rfl rfl rfl rfl rfl rfl zae rfl rfl (kL3 rfl rfl rfl trivial) (dA (xf 0 zaE rfl (xf 0 zan rfl (xf 6 zas rfl (xL4 30 zaP rfl rfl ?_))))))))))
 refine xf 1 zaB rfl (xli 2 zac rfl rfl (xf 2 zaA rfl (xli 2 zac rfl rfl (TL.callD [1] [1] (zcw zam hl) ⟨rfl,rfl,rfl,trivial⟩ ⟨rfl,trivial⟩ zdv rfl rfl rfl rfl rfl trivial (xmu rfl (xei rfl rfl (TL.ext (.bool _) rfl rfl rfl rfl (TL.ext (.bool _) rfl rfl rfl rfl ?_))))))))
 refine xai rfl (xab rfl (xab rfl (dA (xmp rfl (xL10 30 zae rfl rfl (TL.callD [0,1] [0,1] (zbM hl (hW1.edges hl)) ⟨rfl,rfl,trivial⟩ ⟨rfl,rfl,trivial⟩ zc4 rfl rfl rfl rfl rfl trivial (xai rfl (TL.done ?_))))))))
 refine TQ.then (TC.join (X:=M) [0,5,6] [0,2,26,27,30] (fun σ2=>[]) (fun σ2=>[(1,zaj ab mb 140 71 (σ2))]) (fun σ2=>∃ g2,Writ l pr ⟨1,k⟩ (parent l σ) (fun _=>k) σ2 g2∧Rch l ⟨1,k⟩ σ σ2) ?_ (fun σ2 hI=>?_))
 refine TC.block (sA (xf 0 zai rfl (xli 2 zac rfl rfl (TL.eql rfl rfl rfl rfl (fun q6=>?_) (fun q6=>?_)))))
 refine xmt rfl (xmb rfl (TL.cases rfl (fun q7=>?_) (fun q7=>?_)))
 refine xnt rfl (xpG rfl (xmf rfl (xo rfl (xo rfl (xpF rfl (xaf rfl (TL.done (TQ.then ?_))))))))
 refine TC.condF rfl (sA (xf 0 zai rfl (xli 2 zac rfl rfl (TL.eql rfl rfl rfl rfl (fun q8=>?_) (fun q8=>?_)))))
 refine xmt rfl (xmb rfl (TL.cases rfl (fun q9=>?_) (fun q9=>?_)))
 refine xpT rfl (xat rfl (TL.done (TQ.then (TC.condT rfl (TC.region (xL10 30 zae rfl rfl (xmi rfl ?_)))))))
 obtain ⟨t2,b2,o2,σ2,g2,hdel,hW2,hG2,hR2⟩:=hW1.delS hl hp ht ⟨by omega,by omega,by omega,by omega,by omega⟩ (by assumption) (by assumption)
 refine TL.callD [1] [1] (zau zam hl hdel) ⟨rfl,rfl,trivial⟩ ⟨rfl,trivial⟩ za7 rfl rfl rfl rfl rfl trivial (TL.done (TQ.inBlock (TQ.roundK (σ2) ⟨⟨g2,hW2,hR2⟩,Nat.zero_lt_one⟩ trivial ⟨rfl,trivial⟩ (kE3 rfl rfl rfl trivial) (kL5 rfl rfl rfl rfl rfl trivial))))
 refine xpG rfl (xaf rfl (TL.done (TQ.then (TC.condF rfl (sA (xaf rfl (dR (TQ.blockRet ?_))))))))
 refine TQ.thenRet ?_
 refine FQ.ret1 (v:=(.bool false)) (Bs:=[_,_]) [0,1] rfl rfl rfl ⟨rfl,rfl,trivial⟩ ?_
 first | exact ⟨false,_,rfl,rfl,.inl ⟨rfl,rfl⟩⟩ | (obtain rfl:x=l.nodes.toNat:=(by omega); exact ⟨true,_,rfl,rfl,.inr ⟨rfl,hC.updSt hl hp (by omega) hW2.rt.size hR2,_,hC.upd hl hp ht (by omega) hW2 hR2⟩⟩)
 refine xmf rfl (xo rfl (xpF rfl (xaf rfl (TL.done (TQ.then (TC.condF rfl (sA (xaf rfl ?_))))))))
 refine dR (TQ.blockRet (TQ.thenRet ?_))
 refine FQ.ret1 (v:=(.bool false)) (Bs:=[_,_]) [0,1] rfl rfl rfl ⟨rfl,rfl,trivial⟩ ?_
 first | exact ⟨false,_,rfl,rfl,.inl ⟨rfl,rfl⟩⟩ | (obtain rfl:x=l.nodes.toNat:=(by omega); exact ⟨true,_,rfl,rfl,.inr ⟨rfl,hC.updSt hl hp (by omega) hW2.rt.size hR2,_,hC.upd hl hp ht (by omega) hW2 hR2⟩⟩)
 refine xnf rfl (xpT rfl (xmt rfl (xmi rfl (TL.geq rfl rfl rfl rfl (fun q8=>?_) (fun q8=>?_)))))
 refine xpT rfl (xat rfl (TL.done (TQ.then (TC.condT rfl (TC.region (xL10 30 zae rfl rfl (xmi rfl (xf 1 zaB rfl ?_))))))))
 refine xli 2 zac rfl rfl (xf 2 zaA rfl (xli 2 zac rfl rfl ?_))
 obtain ⟨t2,σ2,g2,hins,hW2,hG2,hR2⟩:=hW1.insS hl hp ht ⟨by omega,by omega,by omega,by omega,by omega⟩ (by assumption) (by assumption) (by assumption)
 refine TL.callD [1] [1] (zbo zam hl hins) ⟨rfl,rfl,rfl,rfl,trivial⟩ ⟨rfl,trivial⟩ zeg rfl rfl rfl rfl rfl trivial (TL.done (TQ.inBlock (TQ.roundK (σ2) ⟨⟨g2,hW2,hR2⟩,Nat.zero_lt_one⟩ trivial ⟨rfl,trivial⟩ (kE3 rfl rfl rfl trivial) (kL5 rfl rfl rfl rfl rfl trivial))))
 refine xpG rfl (xaf rfl (TL.done (TQ.then (TC.condF rfl (sA (xf 0 zai rfl (xli 2 zac rfl rfl (TL.eql rfl rfl rfl rfl (fun q9=>?_) (fun q9=>?_)))))))))
 refine xmt rfl (xmb rfl (TL.cases rfl (fun q10=>?_) (fun q10=>?_)))
 refine xpT rfl (xat rfl (TL.done (TQ.then (TC.condT rfl (TC.region (xL10 30 zae rfl rfl (xmi rfl ?_)))))))
 obtain ⟨t2,b2,o2,σ2,g2,hdel,hW2,hG2,hR2⟩:=hW1.delS hl hp ht ⟨by omega,by omega,by omega,by omega,by omega⟩ (by assumption) (by assumption)
 refine TL.callD [1] [1] (zau zam hl hdel) ⟨rfl,rfl,trivial⟩ ⟨rfl,trivial⟩ za7 rfl rfl rfl rfl rfl trivial (TL.done (TQ.inBlock (TQ.roundK (σ2) ⟨⟨g2,hW2,hR2⟩,Nat.zero_lt_one⟩ trivial ⟨rfl,trivial⟩ (kE3 rfl rfl rfl trivial) (kL5 rfl rfl rfl rfl rfl trivial))))
 refine xpG rfl (xaf rfl (TL.done (TQ.then (TC.condF rfl (sA (xaf rfl (dR (TQ.blockRet ?_))))))))
 refine TQ.thenRet ?_
 refine FQ.ret1 (v:=(.bool false)) (Bs:=[_,_]) [0,1] rfl rfl rfl ⟨rfl,rfl,trivial⟩ ?_
 first | exact ⟨false,_,rfl,rfl,.inl ⟨rfl,rfl⟩⟩ | (obtain rfl:x=l.nodes.toNat:=(by omega); exact ⟨true,_,rfl,rfl,.inr ⟨rfl,hC.updSt hl hp (by omega) hW2.rt.size hR2,_,hC.upd hl hp ht (by omega) hW2 hR2⟩⟩)
 refine xmf rfl (xo rfl (xpF rfl (xaf rfl (TL.done (TQ.then (TC.condF rfl (sA (xaf rfl ?_))))))))
 refine dR (TQ.blockRet (TQ.thenRet ?_))
 refine FQ.ret1 (v:=(.bool false)) (Bs:=[_,_]) [0,1] rfl rfl rfl ⟨rfl,rfl,trivial⟩ ?_
 first | exact ⟨false,_,rfl,rfl,.inl ⟨rfl,rfl⟩⟩ | (obtain rfl:x=l.nodes.toNat:=(by omega); exact ⟨true,_,rfl,rfl,.inr ⟨rfl,hC.updSt hl hp (by omega) hW2.rt.size hR2,_,hC.upd hl hp ht (by omega) hW2 hR2⟩⟩)
 refine xmf rfl (xo rfl (xo rfl (xpF rfl (xmf rfl (xo rfl (xo rfl (xpF rfl (xaf rfl ?_))))))))
 refine TL.done (TQ.then (TC.condF rfl (sA (xf 0 zai rfl (xli 2 zac rfl rfl (TL.eql rfl rfl rfl rfl (fun q7=>?_) (fun q7=>?_)))))))
 refine xmt rfl (xmb rfl (TL.cases rfl (fun q8=>?_) (fun q8=>?_)))
 refine xpT rfl (xat rfl (TL.done (TQ.then (TC.condT rfl (TC.region (xL10 30 zae rfl rfl (xmi rfl ?_)))))))
 obtain ⟨t2,b2,o2,σ2,g2,hdel,hW2,hG2,hR2⟩:=hW1.delS hl hp ht ⟨by omega,by omega,by omega,by omega,by omega⟩ (by assumption) (by assumption)
 refine TL.callD [1] [1] (zau zam hl hdel) ⟨rfl,rfl,trivial⟩ ⟨rfl,trivial⟩ za7 rfl rfl rfl rfl rfl trivial (TL.done (TQ.inBlock (TQ.roundK (σ2) ⟨⟨g2,hW2,hR2⟩,Nat.zero_lt_one⟩ trivial ⟨rfl,trivial⟩ (kE3 rfl rfl rfl trivial) (kL5 rfl rfl rfl rfl rfl trivial))))
 refine xpG rfl (xaf rfl (TL.done (TQ.then (TC.condF rfl (sA (xaf rfl (dR (TQ.blockRet ?_))))))))
 refine TQ.thenRet ?_
 refine FQ.ret1 (v:=(.bool false)) (Bs:=[_,_]) [0,1] rfl rfl rfl ⟨rfl,rfl,trivial⟩ ?_
 first | exact ⟨false,_,rfl,rfl,.inl ⟨rfl,rfl⟩⟩ | (obtain rfl:x=l.nodes.toNat:=(by omega); exact ⟨true,_,rfl,rfl,.inr ⟨rfl,hC.updSt hl hp (by omega) hW2.rt.size hR2,_,hC.upd hl hp ht (by omega) hW2 hR2⟩⟩)
 refine xmf rfl (xo rfl (xpF rfl (xaf rfl (TL.done (TQ.then (TC.condF rfl (sA (xaf rfl ?_))))))))
 refine dR (TQ.blockRet (TQ.thenRet ?_))
 refine FQ.ret1 (v:=(.bool false)) (Bs:=[_,_]) [0,1] rfl rfl rfl ⟨rfl,rfl,trivial⟩ ?_
 first | exact ⟨false,_,rfl,rfl,.inl ⟨rfl,rfl⟩⟩ | (obtain rfl:x=l.nodes.toNat:=(by omega); exact ⟨true,_,rfl,rfl,.inr ⟨rfl,hC.updSt hl hp (by omega) hW2.rt.size hR2,_,hC.upd hl hp ht (by omega) hW2 hR2⟩⟩)
 obtain ⟨g2,hW2,hR2⟩:=hI
 refine TC.sub (env':=[(0,_),(5,_),(6,_)]) (L':=[(1,_),(0,_),(2,_),(26,_),(27,_),(30,_)]) ⟨rfl,rfl,rfl,trivial⟩ ⟨rfl,rfl,rfl,rfl,rfl,rfl,trivial⟩ (sB (xai rfl (dK (TC.loopK (X:=Nat) [0,5,6] [0,2,26,27,30] (fun x=>[(12,.int .i64 ((x+1:Nat):Int))]) (fun x=>[(1,zaj ab mb 140 71 (verN l ⟨1,k⟩ x σ2))]) (fun x=>(x:Int)≤l.nodes) (fun x=>l.nodes.toNat - x) (0) (by omega) ⟨rfl,trivial⟩ ⟨rfl,trivial⟩ (fun x hI=>(TC.sub (env':=[(12,_),(0,_),(5,_),(6,_)]) (L':=[(1,_),(0,_),(2,_),(26,_),(27,_),(30,_)]) ⟨rfl,rfl,rfl,rfl,trivial⟩ ⟨rfl,rfl,rfl,rfl,rfl,rfl,trivial⟩ (sB (xmi rfl (xmp rfl ?_)))))))))
 refine xN0 rfl (xf 0 zab rfl (xL3 0 zaa rfl rfl (TL.callD [] [] (zaV hl) ⟨rfl,trivial⟩ trivial zbE rfl rfl rfl rfl rfl trivial (TL.leq rfl rfl rfl rfl (fun q6=>?_) (fun q6=>?_)))))
 refine TL.done (TQ.then (TC.condT rfl (TC.skip (TQ.then (TC.seq (TC.block (sA (xmp rfl ?_))))))))
 refine xN0 rfl (xf 0 zab rfl (xL3 0 zaa rfl rfl (xmi rfl (TL.callD [] [] (zbj hl) ⟨rfl,rfl,trivial⟩ trivial zb1 rfl rfl rfl rfl rfl trivial (xmu rfl (TL.ext (.agg _) rfl rfl rfl rfl (TL.ext (.bool _) rfl rfl rfl rfl (TL.alloc 31 (cs:=#[.bool false,.int .i64 0,.int .i64 0,.int .i64 0,.int .i64 0]) zbw rfl rfl rfl (fun _=>trivial) (fun bk31=>?_)))))))))
 refine TL.stW 31 5 [_,_,_,_,_] rfl rfl rfl rfl rfl rfl zaQ rfl rfl trivial (xab rfl (dA (xf 1 zaS rfl (xli 31 zac rfl rfl (TL.eql rfl rfl rfl rfl (fun q7=>?_) (fun q7=>?_))))))
 refine dT rfl (xmp rfl (xN0 rfl (xf 0 zab rfl (xL3 0 zaa rfl rfl (xmi rfl (TL.callD [] [] (zay hl) ⟨rfl,rfl,rfl,trivial⟩ trivial zaW rfl rfl rfl rfl rfl trivial (xai rfl (TL.done ?_))))))))
 refine TQ.then (TC.draw [(0,true),(1,true),(2,true),(3,true),(4,true),(5,true),(6,true),(7,false),(8,true),(9,false)] [26,27] fc_m (by kernel_rfl) (xL2 27 zar rfl rfl (TL.ldA 26 1 [_] rfl rfl rfl zak rfl rfl (TL.miN (v:=(.agg _)) rfl zaI rfl rfl (xmi rfl (TL.ldA 26 1 [_] rfl rfl rfl zak rfl rfl (TL.miN (v:=(.agg _)) rfl zaI rfl rfl (xmi rfl ?_))))))))
 refine TL.callD [1] [1] (zdN zam) ⟨rfl,rfl,trivial⟩ ⟨rfl,trivial⟩ zcN rfl rfl rfl rfl rfl (kL2 rfl rfl trivial) (TL.add _ rfl rfl (rfl) rfl rfl (TL.callD [1] [1] (zb2 (p:=⟨1,k⟩) zam) ⟨rfl,rfl,rfl,rfl,trivial⟩ ⟨rfl,trivial⟩ zcO rfl rfl rfl rfl rfl (kL2 rfl rfl trivial) (dI (xmi rfl (TL.add (((x+2:Nat):Int)) rfl rfl (wrN (by omega)) rfl rfl (xai rfl (TL.done (TQ.roundK (x+1) ⟨(by omega),(by omega)⟩ ⟨rfl,trivial⟩ ⟨congrArg (fun z=>some (zaj ab mb 140 71 (z))) (by first | exact zbQ (by assumption) | exact zbR (by assumption)),trivial⟩ (kE3 rfl rfl rfl trivial) (kL5 rfl rfl rfl rfl rfl trivial)))))))))
 refine TL.done (TQ.then (TC.condF rfl (TC.skip (TQ.inBlock (TQ.then (TC.region (xmi rfl (TL.add (((x+2:Nat):Int)) rfl rfl (wrN (by omega)) rfl rfl ?_))))))))
 refine xai rfl (TL.done (TQ.roundK (x+1) ⟨(by omega),(by omega)⟩ ⟨rfl,trivial⟩ ⟨congrArg (fun z=>some (zaj ab mb 140 71 (z))) (by first | exact zbQ (by assumption) | exact zbR (by assumption)),trivial⟩ (kE3 rfl rfl rfl trivial) (kL5 rfl rfl rfl rfl rfl trivial)))
 refine dE rfl (sA (xat rfl (dR ?_)))
 refine FQ.ret1 (v:=(.bool true)) (Bs:=[_,_]) [0,1] rfl rfl rfl ⟨rfl,rfl,trivial⟩ ?_
 first | exact ⟨false,_,rfl,rfl,.inl ⟨rfl,rfl⟩⟩ | (obtain rfl:x=l.nodes.toNat:=(by omega); exact ⟨true,_,rfl,rfl,.inr ⟨rfl,hC.updSt hl hp (by omega) hW2.rt.size hR2,_,hC.upd hl hp ht (by omega) hW2 hR2⟩⟩)
 refine TL.alloc 32 (cs:=#[.int .i64 0,.int .i64 0]) zdR rfl rfl rfl (fun _=>(kL1 rfl trivial)) (fun bk32=>(TL.tree (TT.fin (TL.callD [] [] zbT ⟨rfl,trivial⟩ trivial zdw rfl rfl rfl rfl rfl (kL1 rfl trivial) (TL.stW 32 2 [_,_] rfl rfl rfl rfl rfl rfl zar rfl rfl (kL1 rfl trivial) (TL.stW 26 1 [_] rfl rfl rfl rfl rfl rfl zak rfl rfl (kL1 rfl trivial) (dS (TC.drawT (.br [(0,true),(1,true),(2,true),(3,true),(4,true),(5,true),(6,true)] 7 8 (.fin [(8,false),(9,false)]) (.fin [(7,false),(9,false)])) [0,26,32] fc_m (by kernel_rfl) (TT.br (xmp rfl (xN0 rfl ?_)))))))))))
 refine xf 0 zab rfl (xL3 0 zaa rfl rfl (TL.ldA 26 1 [_] rfl rfl rfl zak rfl rfl (TL.miN (v:=(.agg _)) rfl zaI rfl rfl (xL2 32 zar rfl rfl (TL.both ?_ ?_)))))
 refine TL.callD [] [] (zci (p:=⟨1,k⟩)) ⟨rfl,rfl,rfl,trivial⟩ trivial zeh rfl rfl rfl rfl rfl (kL3 rfl rfl rfl trivial) (TL.tree (TT.fin (TL.alloc 33 (cs:=#[.int .i64 0,.int .i64 0,.int .i64 0,.nilIface,.int .i64 0,.int .i64 0,.int .i64 0,.int .i64 0,.int .i64 0,.nilIface]) zds rfl rfl rfl (fun _=>(kL3 rfl rfl rfl trivial)) (fun bk33=>(TL.stW 33 10 [_,_,_,_,_,_,_,_,_,_] rfl rfl rfl rfl rfl rfl zae rfl rfl (kL3 rfl rfl rfl trivial) (dA (xf 0 zaE rfl (xf 0 zan rfl (xf 6 zas rfl (xL4 33 zaP rfl rfl ?_))))))))))
 refine xf 1 zaB rfl (xli 2 zac rfl rfl (xf 2 zaA rfl (xli 2 zac rfl rfl (TL.callD [1] [1] (zcw zam hl) ⟨rfl,rfl,rfl,trivial⟩ ⟨rfl,trivial⟩ zdv rfl rfl rfl rfl rfl trivial (xmu rfl (xei rfl rfl (TL.ext (.bool _) rfl rfl rfl rfl (TL.ext (.bool _) rfl rfl rfl rfl ?_))))))))
 refine xai rfl (xab rfl (xab rfl (dA (xmp rfl (xL10 33 zae rfl rfl (TL.callD [0,1] [0,1] (zbM hl (hW1.edges hl)) ⟨rfl,rfl,trivial⟩ ⟨rfl,rfl,trivial⟩ zc4 rfl rfl rfl rfl rfl trivial (xai rfl (TL.done ?_))))))))
 refine TQ.then (TC.join (X:=M) [0,5,6] [0,2,26,32,33] (fun σ2=>[]) (fun σ2=>[(1,zaj ab mb 140 71 (σ2))]) (fun σ2=>∃ g2,Writ l pr ⟨1,k⟩ (parent l σ) (fun _=>k) σ2 g2∧Rch l ⟨1,k⟩ σ σ2) ?_ (fun σ2 hI=>?_))
 refine TC.block (sA (xf 0 zai rfl (xli 2 zac rfl rfl (TL.eql rfl rfl rfl rfl (fun q6=>?_) (fun q6=>?_)))))
 refine xmt rfl (xmb rfl (TL.cases rfl (fun q7=>?_) (fun q7=>?_)))
 refine xnt rfl (xpG rfl (xmf rfl (xo rfl (xo rfl (xpF rfl (xaf rfl (TL.done (TQ.then ?_))))))))
 refine TC.condF rfl (sA (xf 0 zai rfl (xli 2 zac rfl rfl (TL.eql rfl rfl rfl rfl (fun q8=>?_) (fun q8=>?_)))))
 refine xmt rfl (xmb rfl (TL.cases rfl (fun q9=>?_) (fun q9=>?_)))
 refine xpT rfl (xat rfl (TL.done (TQ.then (TC.condT rfl (TC.region (xL10 33 zae rfl rfl (xmi rfl ?_)))))))
 obtain ⟨t2,b2,o2,σ2,g2,hdel,hW2,hG2,hR2⟩:=hW1.delS hl hp ht ⟨by omega,by omega,by omega,by omega,by omega⟩ (by assumption) (by assumption)
 refine TL.callD [1] [1] (zau zam hl hdel) ⟨rfl,rfl,trivial⟩ ⟨rfl,trivial⟩ za7 rfl rfl rfl rfl rfl trivial (TL.done (TQ.inBlock (TQ.roundK (σ2) ⟨⟨g2,hW2,hR2⟩,Nat.zero_lt_one⟩ trivial ⟨rfl,trivial⟩ (kE3 rfl rfl rfl trivial) (kL5 rfl rfl rfl rfl rfl trivial))))
 refine xpG rfl (xaf rfl (TL.done (TQ.then (TC.condF rfl (sA (xaf rfl (dR (TQ.blockRet ?_))))))))
 refine TQ.thenRet ?_
 refine FQ.ret1 (v:=(.bool false)) (Bs:=[_,_]) [0,1] rfl rfl rfl ⟨rfl,rfl,trivial⟩ ?_
 first | exact ⟨false,_,rfl,rfl,.inl ⟨rfl,rfl⟩⟩ | (obtain rfl:x=l.nodes.toNat:=(by omega); exact ⟨true,_,rfl,rfl,.inr ⟨rfl,hC.updSt hl hp (by omega) hW2.rt.size hR2,_,hC.upd hl hp ht (by omega) hW2 hR2⟩⟩)
 refine xmf rfl (xo rfl (xpF rfl (xaf rfl (TL.done (TQ.then (TC.condF rfl (sA (xaf rfl ?_))))))))
 refine dR (TQ.blockRet (TQ.thenRet ?_))
 refine FQ.ret1 (v:=(.bool false)) (Bs:=[_,_]) [0,1] rfl rfl rfl ⟨rfl,rfl,trivial⟩ ?_
 first | exact ⟨false,_,rfl,rfl,.inl ⟨rfl,rfl⟩⟩ | (obtain rfl:x=l.nodes.toNat:=(by omega); exact ⟨true,_,rfl,rfl,.inr ⟨rfl,hC.updSt hl hp (by omega) hW2.rt.size hR2,_,hC.upd hl hp ht (by omega) hW2 hR2⟩⟩)
 refine xnf rfl (xpT rfl (xmt rfl (xmi rfl (TL.geq rfl rfl rfl rfl (fun q8=>?_) (fun q8=>?_)))))
 refine xpT rfl (xat rfl (TL.done (TQ.then (TC.condT rfl (TC.region (xL10 33 zae rfl rfl (xmi rfl (xf 1 zaB rfl ?_))))))))
 refine xli 2 zac rfl rfl (xf 2 zaA rfl (xli 2 zac rfl rfl ?_))
 obtain ⟨t2,σ2,g2,hins,hW2,hG2,hR2⟩:=hW1.insS hl hp ht ⟨by omega,by omega,by omega,by omega,by omega⟩ (by assumption) (by assumption) (by assumption)
 refine TL.callD [1] [1] (zbo zam hl hins) ⟨rfl,rfl,rfl,rfl,trivial⟩ ⟨rfl,trivial⟩ zeg rfl rfl rfl rfl rfl trivial (TL.done (TQ.inBlock (TQ.roundK (σ2) ⟨⟨g2,hW2,hR2⟩,Nat.zero_lt_one⟩ trivial ⟨rfl,trivial⟩ (kE3 rfl rfl rfl trivial) (kL5 rfl rfl rfl rfl rfl trivial))))
 refine xpG rfl (xaf rfl (TL.done (TQ.then (TC.condF rfl (sA (xf 0 zai rfl (xli 2 zac rfl rfl (TL.eql rfl rfl rfl rfl (fun q9=>?_) (fun q9=>?_)))))))))
 refine xmt rfl (xmb rfl (TL.cases rfl (fun q10=>?_) (fun q10=>?_)))
 refine xpT rfl (xat rfl (TL.done (TQ.then (TC.condT rfl (TC.region (xL10 33 zae rfl rfl (xmi rfl ?_)))))))
 obtain ⟨t2,b2,o2,σ2,g2,hdel,hW2,hG2,hR2⟩:=hW1.delS hl hp ht ⟨by omega,by omega,by omega,by omega,by omega⟩ (by assumption) (by assumption)
 refine TL.callD [1] [1] (zau zam hl hdel) ⟨rfl,rfl,trivial⟩ ⟨rfl,trivial⟩ za7 rfl rfl rfl rfl rfl trivial (TL.done (TQ.inBlock (TQ.roundK (σ2) ⟨⟨g2,hW2,hR2⟩,Nat.zero_lt_one⟩ trivial ⟨rfl,trivial⟩ (kE3 rfl rfl rfl trivial) (kL5 rfl rfl rfl rfl rfl trivial))))
 refine xpG rfl (xaf rfl (TL.done (TQ.then (TC.condF rfl (sA (xaf rfl (dR (TQ.blockRet ?_))))))))
 refine TQ.thenRet ?_
 refine FQ.ret1 (v:=(.bool false)) (Bs:=[_,_]) [0,1] rfl rfl rfl ⟨rfl,rfl,trivial⟩ ?_
 first | exact ⟨false,_,rfl,rfl,.inl ⟨rfl,rfl⟩⟩ | (obtain rfl:x=l.nodes.toNat:=(by omega); exact ⟨true,_,rfl,rfl,.inr ⟨rfl,hC.updSt hl hp (by omega) hW2.rt.size hR2,_,hC.upd hl hp ht (by omega) hW2 hR2⟩⟩)
 refine xmf rfl (xo rfl (xpF rfl (xaf rfl (TL.done (TQ.then (TC.condF rfl (sA (xaf rfl ?_))))))))
 refine dR (TQ.blockRet (TQ.thenRet ?_))
 refine FQ.ret1 (v:=(.bool false)) (Bs:=[_,_]) [0,1] rfl rfl rfl ⟨rfl,rfl,trivial⟩ ?_
 first | exact ⟨false,_,rfl,rfl,.inl ⟨rfl,rfl⟩⟩ | (obtain rfl:x=l.nodes.toNat:=(by omega); exact ⟨true,_,rfl,rfl,.inr ⟨rfl,hC.updSt hl hp (by omega) hW2.rt.size hR2,_,hC.upd hl hp ht (by omega) hW2 hR2⟩⟩)
 refine xmf rfl (xo rfl (xo rfl (xpF rfl (xmf rfl (xo rfl (xo rfl (xpF rfl (xaf rfl ?_))))))))
 refine TL.done (TQ.then (TC.condF rfl (sA (xf 0 zai rfl (xli 2 zac rfl rfl (TL.eql rfl rfl rfl rfl (fun q7=>?_) (fun q7=>?_)))))))
 refine xmt rfl (xmb rfl (TL.cases rfl (fun q8=>?_) (fun q8=>?_)))
 refine xpT rfl (xat rfl (TL.done (TQ.then (TC.condT rfl (TC.region (xL10 33 zae rfl rfl (xmi rfl ?_)))))))
 obtain ⟨t2,b2,o2,σ2,g2,hdel,hW2,hG2,hR2⟩:=hW1.delS hl hp ht ⟨by omega,by omega,by omega,by omega,by omega⟩ (by assumption) (by assumption)
 refine TL.callD [1] [1] (zau zam hl hdel) ⟨rfl,rfl,trivial⟩ ⟨rfl,trivial⟩ za7 rfl rfl rfl rfl rfl trivial (TL.done (TQ.inBlock (TQ.roundK (σ2) ⟨⟨g2,hW2,hR2⟩,Nat.zero_lt_one⟩ trivial ⟨rfl,trivial⟩ (kE3 rfl rfl rfl trivial) (kL5 rfl rfl rfl rfl rfl trivial))))
 refine xpG rfl (xaf rfl (TL.done (TQ.then (TC.condF rfl (sA (xaf rfl (dR (TQ.blockRet ?_))))))))
 refine TQ.thenRet ?_
 refine FQ.ret1 (v:=(.bool false)) (Bs:=[_,_]) [0,1] rfl rfl rfl ⟨rfl,rfl,trivial⟩ ?_
 first | exact ⟨false,_,rfl,rfl,.inl ⟨rfl,rfl⟩⟩ | (obtain rfl:x=l.nodes.toNat:=(by omega); exact ⟨true,_,rfl,rfl,.inr ⟨rfl,hC.updSt hl hp (by omega) hW2.rt.size hR2,_,hC.upd hl hp ht (by omega) hW2 hR2⟩⟩)
 refine xmf rfl (xo rfl (xpF rfl (xaf rfl (TL.done (TQ.then (TC.condF rfl (sA (xaf rfl ?_))))))))
 refine dR (TQ.blockRet (TQ.thenRet ?_))
 refine FQ.ret1 (v:=(.bool false)) (Bs:=[_,_]) [0,1] rfl rfl rfl ⟨rfl,rfl,trivial⟩ ?_
 first | exact ⟨false,_,rfl,rfl,.inl ⟨rfl,rfl⟩⟩ | (obtain rfl:x=l.nodes.toNat:=(by omega); exact ⟨true,_,rfl,rfl,.inr ⟨rfl,hC.updSt hl hp (by omega) hW2.rt.size hR2,_,hC.upd hl hp ht (by omega) hW2 hR2⟩⟩)
 obtain ⟨g2,hW2,hR2⟩:=hI
 refine TC.sub (env':=[(0,_),(5,_),(6,_)]) (L':=[(1,_),(0,_),(2,_),(26,_),(32,_),(33,_)]) ⟨rfl,rfl,rfl,trivial⟩ ⟨rfl,rfl,rfl,rfl,rfl,rfl,trivial⟩ (sB (xai rfl (dK (TC.loopK (X:=Nat) [0,5,6] [0,2,26,32,33] (fun x=>[(12,.int .i64 ((x+1:Nat):Int))]) (fun x=>[(1,zaj ab mb 140 71 (verN l ⟨1,k⟩ x σ2))]) (fun x=>(x:Int)≤l.nodes) (fun x=>l.nodes.toNat - x) (0) (by omega) ⟨rfl,trivial⟩ ⟨rfl,trivial⟩ (fun x hI=>(TC.sub (env':=[(12,_),(0,_),(5,_),(6,_)]) (L':=[(1,_),(0,_),(2,_),(26,_),(32,_),(33,_)]) ⟨rfl,rfl,rfl,rfl,trivial⟩ ⟨rfl,rfl,rfl,rfl,rfl,rfl,trivial⟩ (sB (xmi rfl (xmp rfl ?_)))))))))
 refine xN0 rfl (xf 0 zab rfl (xL3 0 zaa rfl rfl (TL.callD [] [] (zaV hl) ⟨rfl,trivial⟩ trivial zbE rfl rfl rfl rfl rfl trivial (TL.leq rfl rfl rfl rfl (fun q6=>?_) (fun q6=>?_)))))
 refine TL.done (TQ.then (TC.condT rfl (TC.skip (TQ.then (TC.seq (TC.block (sA (xmp rfl ?_))))))))
 refine xN0 rfl (xf 0 zab rfl (xL3 0 zaa rfl rfl (xmi rfl (TL.callD [] [] (zbj hl) ⟨rfl,rfl,trivial⟩ trivial zb1 rfl rfl rfl rfl rfl trivial (xmu rfl (TL.ext (.agg _) rfl rfl rfl rfl (TL.ext (.bool _) rfl rfl rfl rfl (TL.alloc 34 (cs:=#[.bool false,.int .i64 0,.int .i64 0,.int .i64 0,.int .i64 0]) zbw rfl rfl rfl (fun _=>trivial) (fun bk34=>?_)))))))))
 refine TL.stW 34 5 [_,_,_,_,_] rfl rfl rfl rfl rfl rfl zaQ rfl rfl trivial (xab rfl (dA (xf 1 zaS rfl (xli 34 zac rfl rfl (TL.eql rfl rfl rfl rfl (fun q7=>?_) (fun q7=>?_))))))
 refine dT rfl (xmp rfl (xN0 rfl (xf 0 zab rfl (xL3 0 zaa rfl rfl (xmi rfl (TL.callD [] [] (zay hl) ⟨rfl,rfl,rfl,trivial⟩ trivial zaW rfl rfl rfl rfl rfl trivial (xai rfl (TL.done ?_))))))))
 refine TQ.then (TC.draw [(0,true),(1,true),(2,true),(3,true),(4,true),(5,true),(6,true),(7,false),(8,true),(9,false)] [26,32] fc_m (by kernel_rfl) (xL2 32 zar rfl rfl (TL.ldA 26 1 [_] rfl rfl rfl zak rfl rfl (TL.miN (v:=(.agg _)) rfl zaI rfl rfl (xmi rfl (TL.ldA 26 1 [_] rfl rfl rfl zak rfl rfl (TL.miN (v:=(.agg _)) rfl zaI rfl rfl (xmi rfl ?_))))))))
 refine TL.callD [1] [1] (zdN zam) ⟨rfl,rfl,trivial⟩ ⟨rfl,trivial⟩ zcN rfl rfl rfl rfl rfl (kL2 rfl rfl trivial) (TL.add _ rfl rfl (rfl) rfl rfl (TL.callD [1] [1] (zb2 (p:=⟨1,k⟩) zam) ⟨rfl,rfl,rfl,rfl,trivial⟩ ⟨rfl,trivial⟩ zcO rfl rfl rfl rfl rfl (kL2 rfl rfl trivial) (dI (xmi rfl (TL.add (((x+2:Nat):Int)) rfl rfl (wrN (by omega)) rfl rfl (xai rfl (TL.done (TQ.roundK (x+1) ⟨(by omega),(by omega)⟩ ⟨rfl,trivial⟩ ⟨congrArg (fun z=>some (zaj ab mb 140 71 (z))) (by first | exact zbQ (by assumption) | exact zbR (by assumption)),trivial⟩ (kE3 rfl rfl rfl trivial) (kL5 rfl rfl rfl rfl rfl trivial)))))))))
 refine TL.done (TQ.then (TC.condF rfl (TC.skip (TQ.inBlock (TQ.then (TC.region (xmi rfl (TL.add (((x+2:Nat):Int)) rfl rfl (wrN (by omega)) rfl rfl ?_))))))))
 refine xai rfl (TL.done (TQ.roundK (x+1) ⟨(by omega),(by omega)⟩ ⟨rfl,trivial⟩ ⟨congrArg (fun z=>some (zaj ab mb 140 71 (z))) (by first | exact zbQ (by assumption) | exact zbR (by assumption)),trivial⟩ (kE3 rfl rfl rfl trivial) (kL5 rfl rfl rfl rfl rfl trivial)))
 refine dE rfl (sA (xat rfl (dR ?_)))
 refine FQ.ret1 (v:=(.bool true)) (Bs:=[_,_]) [0,1] rfl rfl rfl ⟨rfl,rfl,trivial⟩ ?_
 first | exact ⟨false,_,rfl,rfl,.inl ⟨rfl,rfl⟩⟩ | (obtain rfl:x=l.nodes.toNat:=(by omega); exact ⟨true,_,rfl,rfl,.inr ⟨rfl,hC.updSt hl hp (by omega) hW2.rt.size hR2,_,hC.upd hl hp ht (by omega) hW2 hR2⟩⟩)
 refine TL.alloc 35 (cs:=#[.int .i64 0,.int .i64 0,.int .i64 0,.nilIface,.int .i64 0,.int .i64 0,.int .i64 0,.int .i64 0,.int .i64 0,.nilIface]) zds rfl rfl rfl (fun _=>(kL3 rfl rfl rfl trivial)) (fun bk35=>(TL.tree (TT.fin (TL.callD [] [] (zci (p:=⟨1,k⟩)) ⟨rfl,rfl,rfl,trivial⟩ trivial zeh rfl rfl rfl rfl rfl (kL3 rfl rfl rfl trivial) (TL.stW 35 10 [_,_,_,_,_,_,_,_,_,_] rfl rfl rfl rfl rfl rfl zae rfl rfl (kL3 rfl rfl rfl trivial) (dA (xf 0 zaE rfl (xf 0 zan rfl (xf 6 zas rfl (xL4 35 zaP rfl rfl ?_))))))))))
 refine xf 1 zaB rfl (xli 2 zac rfl rfl (xf 2 zaA rfl (xli 2 zac rfl rfl (TL.callD [1] [1] (zcw zam hl) ⟨rfl,rfl,rfl,trivial⟩ ⟨rfl,trivial⟩ zdv rfl rfl rfl rfl rfl trivial (xmu rfl (xei rfl rfl (TL.ext (.bool _) rfl rfl rfl rfl (TL.ext (.bool _) rfl rfl rfl rfl ?_))))))))
 refine xai rfl (xab rfl (xab rfl (dA (xmp rfl (xL10 35 zae rfl rfl (TL.callD [0,1] [0,1] (zbM hl (hW1.edges hl)) ⟨rfl,rfl,trivial⟩ ⟨rfl,rfl,trivial⟩ zc4 rfl rfl rfl rfl rfl trivial (xai rfl (TL.done ?_))))))))
 refine TQ.then (TC.join (X:=M) [0,5,6] [0,2,26,32,35] (fun σ2=>[]) (fun σ2=>[(1,zaj ab mb 140 71 (σ2))]) (fun σ2=>∃ g2,Writ l pr ⟨1,k⟩ (parent l σ) (fun _=>k) σ2 g2∧Rch l ⟨1,k⟩ σ σ2) ?_ (fun σ2 hI=>?_))
 refine TC.block (sA (xf 0 zai rfl (xli 2 zac rfl rfl (TL.eql rfl rfl rfl rfl (fun q6=>?_) (fun q6=>?_)))))
 refine xmt rfl (xmb rfl (TL.cases rfl (fun q7=>?_) (fun q7=>?_)))
 refine xnt rfl (xpG rfl (xmf rfl (xo rfl (xo rfl (xpF rfl (xaf rfl (TL.done (TQ.then ?_))))))))
 refine TC.condF rfl (sA (xf 0 zai rfl (xli 2 zac rfl rfl (TL.eql rfl rfl rfl rfl (fun q8=>?_) (fun q8=>?_)))))
 refine xmt rfl (xmb rfl (TL.cases rfl (fun q9=>?_) (fun q9=>?_)))
 refine xpT rfl (xat rfl (TL.done (TQ.then (TC.condT rfl (TC.region (xL10 35 zae rfl rfl (xmi rfl ?_)))))))
 obtain ⟨t2,b2,o2,σ2,g2,hdel,hW2,hG2,hR2⟩:=hW1.delS hl hp ht ⟨by omega,by omega,by omega,by omega,by omega⟩ (by assumption) (by assumption)
 refine TL.callD [1] [1] (zau zam hl hdel) ⟨rfl,rfl,trivial⟩ ⟨rfl,trivial⟩ za7 rfl rfl rfl rfl rfl trivial (TL.done (TQ.inBlock (TQ.roundK (σ2) ⟨⟨g2,hW2,hR2⟩,Nat.zero_lt_one⟩ trivial ⟨rfl,trivial⟩ (kE3 rfl rfl rfl trivial) (kL5 rfl rfl rfl rfl rfl trivial))))
 refine xpG rfl (xaf rfl (TL.done (TQ.then (TC.condF rfl (sA (xaf rfl (dR (TQ.blockRet ?_))))))))
 refine TQ.thenRet ?_
 refine FQ.ret1 (v:=(.bool false)) (Bs:=[_,_]) [0,1] rfl rfl rfl ⟨rfl,rfl,trivial⟩ ?_
 first | exact ⟨false,_,rfl,rfl,.inl ⟨rfl,rfl⟩⟩ | (obtain rfl:x=l.nodes.toNat:=(by omega); exact ⟨true,_,rfl,rfl,.inr ⟨rfl,hC.updSt hl hp (by omega) hW2.rt.size hR2,_,hC.upd hl hp ht (by omega) hW2 hR2⟩⟩)
 refine xmf rfl (xo rfl (xpF rfl (xaf rfl (TL.done (TQ.then (TC.condF rfl (sA (xaf rfl ?_))))))))
 refine dR (TQ.blockRet (TQ.thenRet ?_))
 refine FQ.ret1 (v:=(.bool false)) (Bs:=[_,_]) [0,1] rfl rfl rfl ⟨rfl,rfl,trivial⟩ ?_
 first | exact ⟨false,_,rfl,rfl,.inl ⟨rfl,rfl⟩⟩ | (obtain rfl:x=l.nodes.toNat:=(by omega); exact ⟨true,_,rfl,rfl,.inr ⟨rfl,hC.updSt hl hp (by omega) hW2.rt.size hR2,_,hC.upd hl hp ht (by omega) hW2 hR2⟩⟩)
 refine xnf rfl (xpT rfl (xmt rfl (xmi rfl (TL.geq rfl rfl rfl rfl (fun q8=>?_) (fun q8=>?_)))))
 refine xpT rfl (xat rfl (TL.done (TQ.then (TC.condT rfl (TC.region (xL10 35 zae rfl rfl (xmi rfl (xf 1 zaB rfl ?_))))))))
 refine xli 2 zac rfl rfl (xf 2 zaA rfl (xli 2 zac rfl rfl ?_))
 obtain ⟨t2,σ2,g2,hins,hW2,hG2,hR2⟩:=hW1.insS hl hp ht ⟨by omega,by omega,by omega,by omega,by omega⟩ (by assumption) (by assumption) (by assumption)
 refine TL.callD [1] [1] (zbo zam hl hins) ⟨rfl,rfl,rfl,rfl,trivial⟩ ⟨rfl,trivial⟩ zeg rfl rfl rfl rfl rfl trivial (TL.done (TQ.inBlock (TQ.roundK (σ2) ⟨⟨g2,hW2,hR2⟩,Nat.zero_lt_one⟩ trivial ⟨rfl,trivial⟩ (kE3 rfl rfl rfl trivial) (kL5 rfl rfl rfl rfl rfl trivial))))
 refine xpG rfl (xaf rfl (TL.done (TQ.then (TC.condF rfl (sA (xf 0 zai rfl (xli 2 zac rfl rfl (TL.eql rfl rfl rfl rfl (fun q9=>?_) (fun q9=>?_)))))))))
 refine xmt rfl (xmb rfl (TL.cases rfl (fun q10=>?_) (fun q10=>?_)))
 refine xpT rfl (xat rfl (TL.done (TQ.then (TC.condT rfl (TC.region (xL10 35 zae rfl rfl (xmi rfl ?_)))))))
 obtain ⟨t2,b2,o2,σ2,g2,hdel,hW2,hG2,hR2⟩:=hW1.delS hl hp ht ⟨by omega,by omega,by omega,by omega,by omega⟩ (by assumption) (by assumption)
 refine TL.callD [1] [1] (zau zam hl hdel) ⟨rfl,rfl,trivial⟩ ⟨rfl,trivial⟩ za7 rfl rfl rfl rfl rfl trivial (TL.done (TQ.inBlock (TQ.roundK (σ2) ⟨⟨g2,hW2,hR2⟩,Nat.zero_lt_one⟩ trivial ⟨rfl,trivial⟩ (kE3 rfl rfl rfl trivial) (kL5 rfl rfl rfl rfl rfl trivial))))
 refine xpG rfl (xaf rfl (TL.done (TQ.then (TC.condF rfl (sA (xaf rfl (dR (TQ.blockRet ?_))))))))
 refine TQ.thenRet ?_
 refine FQ.ret1 (v:=(.bool false)) (Bs:=[_,_]) [0,1] rfl rfl rfl ⟨rfl,rfl,trivial⟩ ?_
 first | exact ⟨false,_,rfl,rfl,.inl ⟨rfl,rfl⟩⟩ | (obtain rfl:x=l.nodes.toNat:=(by omega); exact ⟨true,_,rfl,rfl,.inr ⟨rfl,hC.updSt hl hp (by omega) hW2.rt.size hR2,_,hC.upd hl hp ht (by omega) hW2 hR2⟩⟩)
 refine xmf rfl (xo rfl (xpF rfl (xaf rfl (TL.done (TQ.then (TC.condF rfl (sA (xaf rfl ?_))))))))
 refine dR (TQ.blockRet (TQ.thenRet ?_))
 refine FQ.ret1 (v:=(.bool false)) (Bs:=[_,_]) [0,1] rfl rfl rfl ⟨rfl,rfl,trivial⟩ ?_
 first | exact ⟨false,_,rfl,rfl,.inl ⟨rfl,rfl⟩⟩ | (obtain rfl:x=l.nodes.toNat:=(by omega); exact ⟨true,_,rfl,rfl,.inr ⟨rfl,hC.updSt hl hp (by omega) hW2.rt.size hR2,_,hC.upd hl hp ht (by omega) hW2 hR2⟩⟩)
 refine xmf rfl (xo rfl (xo rfl (xpF rfl (xmf rfl (xo rfl (xo rfl (xpF rfl (xaf rfl ?_))))))))
 refine TL.done (TQ.then (TC.condF rfl (sA (xf 0 zai rfl (xli 2 zac rfl rfl (TL.eql rfl rfl rfl rfl (fun q7=>?_) (fun q7=>?_)))))))
 refine xmt rfl (xmb rfl (TL.cases rfl (fun q8=>?_) (fun q8=>?_)))
 refine xpT rfl (xat rfl (TL.done (TQ.then (TC.condT rfl (TC.region (xL10 35 zae rfl rfl (xmi rfl ?_)))))))
 obtain ⟨t2,b2,o2,σ2,g2,hdel,hW2,hG2,hR2⟩:=hW1.delS hl hp ht ⟨by omega,by omega,by omega,by omega,by omega⟩ (by assumption) (by assumption)
 refine TL.callD [1] [1] (zau zam hl hdel) ⟨rfl,rfl,trivial⟩ ⟨rfl,trivial⟩ za7 rfl rfl rfl rfl rfl trivial (TL.done (TQ.inBlock (TQ.roundK (σ2) ⟨⟨g2,hW2,hR2⟩,Nat.zero_lt_one⟩ trivial ⟨rfl,trivial⟩ (kE3 rfl rfl rfl trivial) (kL5 rfl rfl rfl rfl rfl trivial))))
 refine xpG rfl (xaf rfl (TL.done (TQ.then (TC.condF rfl (sA (xaf rfl (dR (TQ.blockRet ?_))))))))
 refine TQ.thenRet ?_
 refine FQ.ret1 (v:=(.bool false)) (Bs:=[_,_]) [0,1] rfl rfl rfl ⟨rfl,rfl,trivial⟩ ?_
 first | exact ⟨false,_,rfl,rfl,.inl ⟨rfl,rfl⟩⟩ | (obtain rfl:x=l.nodes.toNat:=(by omega); exact ⟨true,_,rfl,rfl,.inr ⟨rfl,hC.updSt hl hp (by omega) hW2.rt.size hR2,_,hC.upd hl hp ht (by omega) hW2 hR2⟩⟩)
 refine xmf rfl (xo rfl (xpF rfl (xaf rfl (TL.done (TQ.then (TC.condF rfl (sA (xaf rfl ?_))))))))
 refine dR (TQ.blockRet (TQ.thenRet ?_))
 refine FQ.ret1 (v:=(.bool false)) (Bs:=[_,_]) [0,1] rfl rfl rfl ⟨rfl,rfl,trivial⟩ ?_
 first | exact ⟨false,_,rfl,rfl,.inl ⟨rfl,rfl⟩⟩ | (obtain rfl:x=l.nodes.toNat:=(by omega); exact ⟨true,_,rfl,rfl,.inr ⟨rfl,hC.updSt hl hp (by omega) hW2.rt.size hR2,_,hC.upd hl hp ht (by omega) hW2 hR2⟩⟩)
 obtain ⟨g2,hW2,hR2⟩:=hI
 refine TC.sub (env':=[(0,_),(5,_),(6,_)]) (L':=[(1,_),(0,_),(2,_),(26,_),(32,_),(35,_)]) ⟨rfl,rfl,rfl,trivial⟩ ⟨rfl,rfl,rfl,rfl,rfl,rfl,trivial⟩ (sB (xai rfl (dK (TC.loopK (X:=Nat) [0,5,6] [0,2,26,32,35] (fun x=>[(12,.int .i64 ((x+1:Nat):Int))]) (fun x=>[(1,zaj ab mb 140 71 (verN l ⟨1,k⟩ x σ2))]) (fun x=>(x:Int)≤l.nodes) (fun x=>l.nodes.toNat - x) (0) (by omega) ⟨rfl,trivial⟩ ⟨rfl,trivial⟩ (fun x hI=>(TC.sub (env':=[(12,_),(0,_),(5,_),(6,_)]) (L':=[(1,_),(0,_),(2,_),(26,_),(32,_),(35,_)]) ⟨rfl,rfl,rfl,rfl,trivial⟩ ⟨rfl,rfl,rfl,rfl,rfl,rfl,trivial⟩ (sB (xmi rfl (xmp rfl ?_)))))))))
 refine xN0 rfl (xf 0 zab rfl (xL3 0 zaa rfl rfl (TL.callD [] [] (zaV hl) ⟨rfl,trivial⟩ trivial zbE rfl rfl rfl rfl rfl trivial (TL.leq rfl rfl rfl rfl (fun q6=>?_) (fun q6=>?_)))))
 refine TL.done (TQ.then (TC.condT rfl (TC.skip (TQ.then (TC.seq (TC.block (sA (xmp rfl ?_))))))))
 refine xN0 rfl (xf 0 zab rfl (xL3 0 zaa rfl rfl (xmi rfl (TL.callD [] [] (zbj hl) ⟨rfl,rfl,trivial⟩ trivial zb1 rfl rfl rfl rfl rfl trivial (xmu rfl (TL.ext (.agg _) rfl rfl rfl rfl (TL.ext (.bool _) rfl rfl rfl rfl (TL.alloc 36 (cs:=#[.bool false,.int .i64 0,.int .i64 0,.int .i64 0,.int .i64 0]) zbw rfl rfl rfl (fun _=>trivial) (fun bk36=>?_)))))))))
 refine TL.stW 36 5 [_,_,_,_,_] rfl rfl rfl rfl rfl rfl zaQ rfl rfl trivial (xab rfl (dA (xf 1 zaS rfl (xli 36 zac rfl rfl (TL.eql rfl rfl rfl rfl (fun q7=>?_) (fun q7=>?_))))))
 refine dT rfl (xmp rfl (xN0 rfl (xf 0 zab rfl (xL3 0 zaa rfl rfl (xmi rfl (TL.callD [] [] (zay hl) ⟨rfl,rfl,rfl,trivial⟩ trivial zaW rfl rfl rfl rfl rfl trivial (xai rfl (TL.done ?_))))))))
 refine TQ.then (TC.draw [(0,true),(1,true),(2,true),(3,true),(4,true),(5,true),(6,true),(7,false),(8,true),(9,false)] [26,32] fc_m (by kernel_rfl) (xL2 32 zar rfl rfl (TL.ldA 26 1 [_] rfl rfl rfl zak rfl rfl (TL.miN (v:=(.agg _)) rfl zaI rfl rfl (xmi rfl (TL.ldA 26 1 [_] rfl rfl rfl zak rfl rfl (TL.miN (v:=(.agg _)) rfl zaI rfl rfl (xmi rfl ?_))))))))
 refine TL.callD [1] [1] (zdN zam) ⟨rfl,rfl,trivial⟩ ⟨rfl,trivial⟩ zcN rfl rfl rfl rfl rfl (kL2 rfl rfl trivial) (TL.add _ rfl rfl (rfl) rfl rfl (TL.callD [1] [1] (zb2 (p:=⟨1,k⟩) zam) ⟨rfl,rfl,rfl,rfl,trivial⟩ ⟨rfl,trivial⟩ zcO rfl rfl rfl rfl rfl (kL2 rfl rfl trivial) (dI (xmi rfl (TL.add (((x+2:Nat):Int)) rfl rfl (wrN (by omega)) rfl rfl (xai rfl (TL.done (TQ.roundK (x+1) ⟨(by omega),(by omega)⟩ ⟨rfl,trivial⟩ ⟨congrArg (fun z=>some (zaj ab mb 140 71 (z))) (by first | exact zbQ (by assumption) | exact zbR (by assumption)),trivial⟩ (kE3 rfl rfl rfl trivial) (kL5 rfl rfl rfl rfl rfl trivial)))))))))
 refine TL.done (TQ.then (TC.condF rfl (TC.skip (TQ.inBlock (TQ.then (TC.region (xmi rfl (TL.add (((x+2:Nat):Int)) rfl rfl (wrN (by omega)) rfl rfl ?_))))))))
 refine xai rfl (TL.done (TQ.roundK (x+1) ⟨(by omega),(by omega)⟩ ⟨rfl,trivial⟩ ⟨congrArg (fun z=>some (zaj ab mb 140 71 (z))) (by first | exact zbQ (by assumption) | exact zbR (by assumption)),trivial⟩ (kE3 rfl rfl rfl trivial) (kL5 rfl rfl rfl rfl rfl trivial)))
 refine dE rfl (sA (xat rfl (dR ?_)))
 refine FQ.ret1 (v:=(.bool true)) (Bs:=[_,_]) [0,1] rfl rfl rfl ⟨rfl,rfl,trivial⟩ ?_
 first | exact ⟨false,_,rfl,rfl,.inl ⟨rfl,rfl⟩⟩ | (obtain rfl:x=l.nodes.toNat:=(by omega); exact ⟨true,_,rfl,rfl,.inr ⟨rfl,hC.updSt hl hp (by omega) hW2.rt.size hR2,_,hC.upd hl hp ht (by omega) hW2 hR2⟩⟩)
theorem zlr {l:Lay} (hl:l.Ok) {pb ab mb:Nat} {σ:Array UInt64} {k:Int} {pr:Int→Int} {g:G} {o:Op3} {w:Int} (hk:0≤k∧k≤60) (hC:Go.Tm.Calm l pr ⟨1,k⟩ (fun _=>k) σ g):Go.Eng.Fn Tryz.prog 59 [.pointer (some ⟨pb,0,none⟩),.agg #[.int .i64 o.kind,.int .i64 o.u,.int .i64 o.v,.int .i64 w]] [pt pb (.cells #[.int .i64 l.V,.int .i64 l.S,.int .i64 l.T,.pointer (some ⟨ab,0,none⟩),.int .i64 k] 117),zaj ab mb 140 71 (σ)] (fun x Bs=>∃ b σ2,x=.bool b∧Bs=[pt pb (.cells #[.int .i64 l.V,.int .i64 l.S,.int .i64 l.T,.pointer (some ⟨ab,0,none⟩),.int .i64 k] 117),zaj ab mb 140 71 (σ2)]∧(b=false∧σ2=σ∨b=true∧∃ g2,Upd l pr ⟨1,k⟩ (parent l σ) k σ2 g2)):=Fn.mono (zgz hl hk hC) fun x Bs ⟨b,σ2,h1,h2,h3⟩=>⟨b,σ2,h1,h2,h3.imp id (fun h=>⟨h.1,h.2.2⟩)⟩
set_option maxHeartbeats 1000000 in
theorem zhn {l:Lay} (hl:l.Ok) {pb ab mb:Nat} {σ:Array UInt64} {k:Int} (hk:0≤k∧k≤60):FnD Tryz.prog 60 [.pointer (some ⟨pb,0,none⟩)] [pt pb (.cells #[.int .i64 l.V,.int .i64 l.S,.int .i64 l.T,.pointer (some ⟨ab,0,none⟩),.int .i64 k] 117),zaj ab mb 140 71 (σ)] (.tuple #[]) [pt pb (.cells #[.int .i64 l.V,.int .i64 l.S,.int .i64 l.T,.pointer (some ⟨ab,0,none⟩),.int .i64 (k+1)] 117),zaj ab mb 140 71 (zbs l ⟨1,k⟩ true σ)]:=by
 have hnb:=za0 hl
 refine Fn.enter (Tryz.func60) rfl rfl (fun w0 R=>?_)
 refine TC.seq (TC.drawT (.br3 [(0,true),(1,true),(2,true),(3,true),(4,true),(5,true),(6,true),(7,true),(8,true)] 9 10 11 (.br [] 10 11 (.fin [(11,false),(12,false),(13,false)]) (.fin [(10,false),(12,false),(13,false)])) (.br [] 9 11 (.fin [(11,false),(12,false),(13,false)]) (.fin [(9,false),(12,false),(13,false)])) (.br [] 9 10 (.fin [(10,false),(12,false),(13,false)]) (.fin [(9,false),(12,false),(13,false)]))) [0] fc_m (by kernel_rfl) (TT.br3 (xmp rfl (xN0 rfl (xf 4 za2 rfl (xli 0 zac rfl rfl (TL.bld [.int .i64 0,.int .i64 0] [(.int _ _),(.int _ _)] [_,_] zdR znr ⟨rfl,rfl,trivial⟩ ⟨rfl,rfl⟩ rfl rfl (xmp rfl (xN0 rfl ?_)))))))))
 refine xf 3 zea rfl (xlp 0 zhT rfl rfl (TL.both3 ?_ ?_ ?_))
 refine TL.callD [] [] zbT ⟨rfl,trivial⟩ trivial zdw rfl rfl rfl rfl rfl (kL1 rfl trivial) (TL.tree (TT.br (TL.both ?_ ?_)))
 refine TL.alloc 2 (cs:=#[.int .i64 0,.int .i64 0]) zdR rfl rfl rfl (fun _=>(kL1 rfl trivial)) (fun bk2=>(TL.tree (TT.fin (TL.alloc 3 (cs:=#[.pointer none]) zdQ rfl rfl rfl (fun _=>(kL1 rfl trivial)) (fun bk3=>(TL.stW 2 2 [_,_] rfl rfl rfl rfl rfl rfl zar rfl rfl (kL1 rfl trivial) (TL.stW 3 1 [_] rfl rfl rfl rfl rfl rfl zak rfl rfl (kL1 rfl trivial) (dS (TC.draw [(0,true),(1,true),(2,true),(3,true),(4,true),(5,true),(6,true),(7,false)] [0,2,3] fc_m (by kernel_rfl) (xL2 2 zar rfl rfl (TL.ldA 3 1 [_] rfl rfl rfl zak rfl rfl ?_)))))))))))
 refine TL.miN (v:=(.agg _)) rfl zaI rfl rfl (xmp rfl (xN0 rfl (xf 0 zab rfl (xL3 0 zaa rfl rfl (TL.callD [1] [1] (zc8 (p:=⟨1,k⟩) zam (zaH) hl) ⟨rfl,rfl,rfl,trivial⟩ ⟨rfl,trivial⟩ zh2 rfl rfl rfl rfl rfl (kL3 rfl rfl rfl trivial) (dB (xai rfl (dK ?_))))))))
 refine TC.loopK (X:=Nat) [0,2,3] [0,2,3] (fun x=>[(4,.int .i64 ((x+1:Nat):Int))]) (fun x=>[(1,zaj ab mb 140 71 (zbP l true x (zbv l ⟨1,k⟩ σ k true)))]) (fun x=>(x:Int)≤l.nodes) (fun x=>l.nodes.toNat - x) (0) (by omega) ⟨rfl,trivial⟩ ⟨rfl,trivial⟩ (fun x hI=>(TC.sub (env':=[(4,_),(0,_),(2,_),(3,_)]) (L':=[(1,_),(0,_),(2,_),(3,_)]) ⟨rfl,rfl,rfl,rfl,trivial⟩ ⟨rfl,rfl,rfl,rfl,trivial⟩ (sB (xmi rfl (xmp rfl (xN0 rfl (xf 0 zab rfl (xL3 0 zaa rfl rfl (TL.callD [] [] (zaV hl) ⟨rfl,trivial⟩ trivial zbE rfl rfl rfl rfl rfl trivial ?_)))))))))
 refine TL.leq rfl rfl rfl rfl (fun q1=>?_) (fun q1=>?_)
 refine TL.done (TQ.then (TC.condT rfl (TC.skip (TQ.then (TC.seq (TC.block (sA (xmp rfl ?_))))))))
 refine xN0 rfl (xf 0 zab rfl (xL3 0 zaa rfl rfl (xmi rfl (TL.callD [] [] (zbj hl) ⟨rfl,rfl,trivial⟩ trivial zb1 rfl rfl rfl rfl rfl trivial (xmu rfl (TL.ext (.agg _) rfl rfl rfl rfl (TL.ext (.bool _) rfl rfl rfl rfl (TL.alloc 4 (cs:=#[.bool false,.int .i64 0,.int .i64 0,.int .i64 0,.int .i64 0]) zbw rfl rfl rfl (fun _=>trivial) (fun bk4=>?_)))))))))
 refine TL.stW 4 5 [_,_,_,_,_] rfl rfl rfl rfl rfl rfl zaQ rfl rfl trivial (xab rfl (dA (xf 1 zaS rfl (xli 4 zac rfl rfl (TL.eql rfl rfl rfl rfl (fun q2=>?_) (fun q2=>?_))))))
 refine TL.done (TQ.then (TC.condT rfl (TC.seq (TC.draw [(0,true),(1,true),(2,true),(3,true),(4,true),(5,true),(6,true),(7,true),(8,false),(9,false)] [0,2,3] fc_m (by kernel_rfl) (xL2 2 zar rfl rfl (TL.ldA 3 1 [_] rfl rfl rfl zak rfl rfl (TL.miN (v:=(.agg _)) rfl zaI rfl rfl (xmp rfl ?_))))))))
 refine xN0 rfl (xf 0 zab rfl (xL3 0 zaa rfl rfl (xmi rfl (TL.callD [] [] (zay hl) ⟨rfl,rfl,rfl,trivial⟩ trivial zaW rfl rfl rfl rfl rfl (kL3 rfl rfl rfl trivial) (TL.callD [1] [1] (zb8 (p:=⟨1,k⟩) zam) ⟨rfl,rfl,rfl,trivial⟩ ⟨rfl,trivial⟩ zdT rfl rfl rfl rfl rfl (kL3 rfl rfl rfl trivial) (TL.done (TQ.then (TC.draw [(0,true),(1,true),(2,true),(3,true),(4,true),(5,true),(6,true),(7,true),(8,false),(9,false)] [0,2,3] fc_m (by kernel_rfl) ?_))))))))
 refine xL2 2 zar rfl rfl (TL.ldA 3 1 [_] rfl rfl rfl zak rfl rfl (TL.miN (v:=(.agg _)) rfl zaI rfl rfl (xmp rfl (xN0 rfl (xf 0 zab rfl (xL3 0 zaa rfl rfl (xmi rfl (TL.callD [] [] (zay hl) ⟨rfl,rfl,rfl,trivial⟩ trivial zaW rfl rfl rfl rfl rfl (kL3 rfl rfl rfl trivial) ?_))))))))
 refine TL.callD [1] [1] (zb8 (p:=⟨1,k⟩) zam) ⟨rfl,rfl,rfl,trivial⟩ ⟨rfl,trivial⟩ zdT rfl rfl rfl rfl rfl (kL3 rfl rfl rfl trivial) (dI (xmi rfl (TL.add (((x+2:Nat):Int)) rfl rfl (wrN (by omega)) rfl rfl (xai rfl (TL.done (TQ.roundK (x+1) ⟨(by omega),(by omega)⟩ ⟨rfl,trivial⟩ ⟨congrArg (fun z=>some (zaj ab mb 140 71 (z))) (by first | exact zbO (by assumption) | exact zcj (by assumption)),trivial⟩ (kE3 rfl rfl rfl trivial) (kL3 rfl rfl rfl trivial)))))))
 refine TL.done (TQ.then (TC.condF rfl (TC.skip (TQ.inBlock (TQ.then (TC.region (xmi rfl (TL.add (((x+2:Nat):Int)) rfl rfl (wrN (by omega)) rfl rfl ?_))))))))
 refine xai rfl (TL.done (TQ.roundK (x+1) ⟨(by omega),(by omega)⟩ ⟨rfl,trivial⟩ ⟨congrArg (fun z=>some (zaj ab mb 140 71 (z))) (by first | exact zbO (by assumption) | exact zcj (by assumption)),trivial⟩ (kE3 rfl rfl rfl trivial) (kL3 rfl rfl rfl trivial)))
 refine dE rfl (TC.seq (TC.draw [(0,true),(1,true),(2,true),(3,true),(4,true),(5,true),(6,true),(7,false)] [0,2,3] fc_m (by kernel_rfl) (xL2 2 zar rfl rfl (TL.ldA 3 1 [_] rfl rfl rfl zak rfl rfl (TL.miN (v:=(.agg _)) rfl zaI rfl rfl (xmp rfl (xN0 rfl (xf 0 zab rfl ?_))))))))
 refine xL3 0 zaa rfl rfl ?_
 obtain rfl:x=l.nodes.toNat:=by omega
 refine TL.callD [1] [1] (zfP (p:=⟨1,k⟩) zam (zaH) hl) ⟨rfl,rfl,rfl,trivial⟩ ⟨rfl,trivial⟩ zh0 rfl rfl rfl rfl rfl (kL3 rfl rfl rfl trivial) ?_
 rw [show IntKind.i64.wrap ((⟨1,k⟩:Pen).tag+1)=k+1 from wr64 (by show _≤k+1∧k+1<_; omega)]
 refine dG (xmp rfl (xN0 rfl (xf 4 za2 rfl (xli 0 zac rfl rfl (TL.add _ rfl rfl (wr64 (by omega)) rfl rfl (xN0 rfl (xf 4 za2 rfl (TL.st 0 #[_,_,_,_,_] (.int _ _) rfl rfl rfl rfl rfl rfl zac rfl rfl trivial ?_))))))))
 refine TL.done ?_
 refine FQ.end0 (Bs:=[_,_]) [0,1] rfl rfl ⟨rfl,rfl,trivial⟩ ?_
 exact ⟨rfl,rfl⟩
 refine TL.alloc 5 (cs:=#[.pointer none]) zdQ rfl rfl rfl (fun _=>(kL1 rfl trivial)) (fun bk5=>(TL.tree (TT.fin (TL.alloc 6 (cs:=#[.int .i64 0,.int .i64 0]) zdR rfl rfl rfl (fun _=>(kL1 rfl trivial)) (fun bk6=>(TL.stW 6 2 [_,_] rfl rfl rfl rfl rfl rfl zar rfl rfl (kL1 rfl trivial) (TL.stW 5 1 [_] rfl rfl rfl rfl rfl rfl zak rfl rfl (kL1 rfl trivial) (dS (TC.draw [(0,true),(1,true),(2,true),(3,true),(4,true),(5,true),(6,true),(7,false)] [0,5,6] fc_m (by kernel_rfl) (xL2 6 zar rfl rfl (TL.ldA 5 1 [_] rfl rfl rfl zak rfl rfl ?_)))))))))))
 refine TL.miN (v:=(.agg _)) rfl zaI rfl rfl (xmp rfl (xN0 rfl (xf 0 zab rfl (xL3 0 zaa rfl rfl (TL.callD [1] [1] (zc8 (p:=⟨1,k⟩) zam (zaH) hl) ⟨rfl,rfl,rfl,trivial⟩ ⟨rfl,trivial⟩ zh2 rfl rfl rfl rfl rfl (kL3 rfl rfl rfl trivial) (dB (xai rfl (dK ?_))))))))
 refine TC.loopK (X:=Nat) [0,2,3] [0,5,6] (fun x=>[(4,.int .i64 ((x+1:Nat):Int))]) (fun x=>[(1,zaj ab mb 140 71 (zbP l true x (zbv l ⟨1,k⟩ σ k true)))]) (fun x=>(x:Int)≤l.nodes) (fun x=>l.nodes.toNat - x) (0) (by omega) ⟨rfl,trivial⟩ ⟨rfl,trivial⟩ (fun x hI=>(TC.sub (env':=[(4,_),(0,_),(2,_),(3,_)]) (L':=[(1,_),(0,_),(5,_),(6,_)]) ⟨rfl,rfl,rfl,rfl,trivial⟩ ⟨rfl,rfl,rfl,rfl,trivial⟩ (sB (xmi rfl (xmp rfl (xN0 rfl (xf 0 zab rfl (xL3 0 zaa rfl rfl (TL.callD [] [] (zaV hl) ⟨rfl,trivial⟩ trivial zbE rfl rfl rfl rfl rfl trivial ?_)))))))))
 refine TL.leq rfl rfl rfl rfl (fun q1=>?_) (fun q1=>?_)
 refine TL.done (TQ.then (TC.condT rfl (TC.skip (TQ.then (TC.seq (TC.block (sA (xmp rfl ?_))))))))
 refine xN0 rfl (xf 0 zab rfl (xL3 0 zaa rfl rfl (xmi rfl (TL.callD [] [] (zbj hl) ⟨rfl,rfl,trivial⟩ trivial zb1 rfl rfl rfl rfl rfl trivial (xmu rfl (TL.ext (.agg _) rfl rfl rfl rfl (TL.ext (.bool _) rfl rfl rfl rfl (TL.alloc 7 (cs:=#[.bool false,.int .i64 0,.int .i64 0,.int .i64 0,.int .i64 0]) zbw rfl rfl rfl (fun _=>trivial) (fun bk7=>?_)))))))))
 refine TL.stW 7 5 [_,_,_,_,_] rfl rfl rfl rfl rfl rfl zaQ rfl rfl trivial (xab rfl (dA (xf 1 zaS rfl (xli 7 zac rfl rfl (TL.eql rfl rfl rfl rfl (fun q2=>?_) (fun q2=>?_))))))
 refine TL.done (TQ.then (TC.condT rfl (TC.seq (TC.draw [(0,true),(1,true),(2,true),(3,true),(4,true),(5,true),(6,true),(7,true),(8,false),(9,false)] [0,5,6] fc_m (by kernel_rfl) (xL2 6 zar rfl rfl (TL.ldA 5 1 [_] rfl rfl rfl zak rfl rfl (TL.miN (v:=(.agg _)) rfl zaI rfl rfl (xmp rfl ?_))))))))
 refine xN0 rfl (xf 0 zab rfl (xL3 0 zaa rfl rfl (xmi rfl (TL.callD [] [] (zay hl) ⟨rfl,rfl,rfl,trivial⟩ trivial zaW rfl rfl rfl rfl rfl (kL3 rfl rfl rfl trivial) (TL.callD [1] [1] (zb8 (p:=⟨1,k⟩) zam) ⟨rfl,rfl,rfl,trivial⟩ ⟨rfl,trivial⟩ zdT rfl rfl rfl rfl rfl (kL3 rfl rfl rfl trivial) (TL.done (TQ.then (TC.draw [(0,true),(1,true),(2,true),(3,true),(4,true),(5,true),(6,true),(7,true),(8,false),(9,false)] [0,5,6] fc_m (by kernel_rfl) ?_))))))))
 refine xL2 6 zar rfl rfl (TL.ldA 5 1 [_] rfl rfl rfl zak rfl rfl (TL.miN (v:=(.agg _)) rfl zaI rfl rfl (xmp rfl (xN0 rfl (xf 0 zab rfl (xL3 0 zaa rfl rfl (xmi rfl (TL.callD [] [] (zay hl) ⟨rfl,rfl,rfl,trivial⟩ trivial zaW rfl rfl rfl rfl rfl (kL3 rfl rfl rfl trivial) ?_))))))))
 refine TL.callD [1] [1] (zb8 (p:=⟨1,k⟩) zam) ⟨rfl,rfl,rfl,trivial⟩ ⟨rfl,trivial⟩ zdT rfl rfl rfl rfl rfl (kL3 rfl rfl rfl trivial) (dI (xmi rfl (TL.add (((x+2:Nat):Int)) rfl rfl (wrN (by omega)) rfl rfl (xai rfl (TL.done (TQ.roundK (x+1) ⟨(by omega),(by omega)⟩ ⟨rfl,trivial⟩ ⟨congrArg (fun z=>some (zaj ab mb 140 71 (z))) (by first | exact zbO (by assumption) | exact zcj (by assumption)),trivial⟩ (kE3 rfl rfl rfl trivial) (kL3 rfl rfl rfl trivial)))))))
 refine TL.done (TQ.then (TC.condF rfl (TC.skip (TQ.inBlock (TQ.then (TC.region (xmi rfl (TL.add (((x+2:Nat):Int)) rfl rfl (wrN (by omega)) rfl rfl ?_))))))))
 refine xai rfl (TL.done (TQ.roundK (x+1) ⟨(by omega),(by omega)⟩ ⟨rfl,trivial⟩ ⟨congrArg (fun z=>some (zaj ab mb 140 71 (z))) (by first | exact zbO (by assumption) | exact zcj (by assumption)),trivial⟩ (kE3 rfl rfl rfl trivial) (kL3 rfl rfl rfl trivial)))
 refine dE rfl (TC.seq (TC.draw [(0,true),(1,true),(2,true),(3,true),(4,true),(5,true),(6,true),(7,false)] [0,5,6] fc_m (by kernel_rfl) (xL2 6 zar rfl rfl (TL.ldA 5 1 [_] rfl rfl rfl zak rfl rfl (TL.miN (v:=(.agg _)) rfl zaI rfl rfl (xmp rfl (xN0 rfl (xf 0 zab rfl ?_))))))))
 refine xL3 0 zaa rfl rfl ?_
 obtain rfl:x=l.nodes.toNat:=by omega
 refine TL.callD [1] [1] (zfP (p:=⟨1,k⟩) zam (zaH) hl) ⟨rfl,rfl,rfl,trivial⟩ ⟨rfl,trivial⟩ zh0 rfl rfl rfl rfl rfl (kL3 rfl rfl rfl trivial) ?_
 rw [show IntKind.i64.wrap ((⟨1,k⟩:Pen).tag+1)=k+1 from wr64 (by show _≤k+1∧k+1<_; omega)]
 refine dG (xmp rfl (xN0 rfl (xf 4 za2 rfl (xli 0 zac rfl rfl (TL.add _ rfl rfl (wr64 (by omega)) rfl rfl (xN0 rfl (xf 4 za2 rfl (TL.st 0 #[_,_,_,_,_] (.int _ _) rfl rfl rfl rfl rfl rfl zac rfl rfl trivial ?_))))))))
 refine TL.done ?_
 refine FQ.end0 (Bs:=[_,_]) [0,1] rfl rfl ⟨rfl,rfl,trivial⟩ ?_
 exact ⟨rfl,rfl⟩
 refine TL.alloc 8 (cs:=#[.int .i64 0,.int .i64 0]) zdR rfl rfl rfl (fun _=>(kL1 rfl trivial)) (fun bk8=>(TL.tree (TT.br (TL.both ?_ ?_))))
 refine TL.callD [] [] zbT ⟨rfl,trivial⟩ trivial zdw rfl rfl rfl rfl rfl (kL1 rfl trivial) (TL.tree (TT.fin (TL.alloc 9 (cs:=#[.pointer none]) zdQ rfl rfl rfl (fun _=>(kL1 rfl trivial)) (fun bk9=>(TL.stW 8 2 [_,_] rfl rfl rfl rfl rfl rfl zar rfl rfl (kL1 rfl trivial) (TL.stW 9 1 [_] rfl rfl rfl rfl rfl rfl zak rfl rfl (kL1 rfl trivial) (dS (TC.draw [(0,true),(1,true),(2,true),(3,true),(4,true),(5,true),(6,true),(7,false)] [0,8,9] fc_m (by kernel_rfl) (xL2 8 zar rfl rfl (TL.ldA 9 1 [_] rfl rfl rfl zak rfl rfl ?_))))))))))
 refine TL.miN (v:=(.agg _)) rfl zaI rfl rfl (xmp rfl (xN0 rfl (xf 0 zab rfl (xL3 0 zaa rfl rfl (TL.callD [1] [1] (zc8 (p:=⟨1,k⟩) zam (zaH) hl) ⟨rfl,rfl,rfl,trivial⟩ ⟨rfl,trivial⟩ zh2 rfl rfl rfl rfl rfl (kL3 rfl rfl rfl trivial) (dB (xai rfl (dK ?_))))))))
 refine TC.loopK (X:=Nat) [0,2,3] [0,8,9] (fun x=>[(4,.int .i64 ((x+1:Nat):Int))]) (fun x=>[(1,zaj ab mb 140 71 (zbP l true x (zbv l ⟨1,k⟩ σ k true)))]) (fun x=>(x:Int)≤l.nodes) (fun x=>l.nodes.toNat - x) (0) (by omega) ⟨rfl,trivial⟩ ⟨rfl,trivial⟩ (fun x hI=>(TC.sub (env':=[(4,_),(0,_),(2,_),(3,_)]) (L':=[(1,_),(0,_),(8,_),(9,_)]) ⟨rfl,rfl,rfl,rfl,trivial⟩ ⟨rfl,rfl,rfl,rfl,trivial⟩ (sB (xmi rfl (xmp rfl (xN0 rfl (xf 0 zab rfl (xL3 0 zaa rfl rfl (TL.callD [] [] (zaV hl) ⟨rfl,trivial⟩ trivial zbE rfl rfl rfl rfl rfl trivial ?_)))))))))
 refine TL.leq rfl rfl rfl rfl (fun q1=>?_) (fun q1=>?_)
 refine TL.done (TQ.then (TC.condT rfl (TC.skip (TQ.then (TC.seq (TC.block (sA (xmp rfl ?_))))))))
 refine xN0 rfl (xf 0 zab rfl (xL3 0 zaa rfl rfl (xmi rfl (TL.callD [] [] (zbj hl) ⟨rfl,rfl,trivial⟩ trivial zb1 rfl rfl rfl rfl rfl trivial (xmu rfl (TL.ext (.agg _) rfl rfl rfl rfl (TL.ext (.bool _) rfl rfl rfl rfl (TL.alloc 10 (cs:=#[.bool false,.int .i64 0,.int .i64 0,.int .i64 0,.int .i64 0]) zbw rfl rfl rfl (fun _=>trivial) (fun bk10=>?_)))))))))
 refine TL.stW 10 5 [_,_,_,_,_] rfl rfl rfl rfl rfl rfl zaQ rfl rfl trivial (xab rfl (dA (xf 1 zaS rfl (xli 10 zac rfl rfl (TL.eql rfl rfl rfl rfl (fun q2=>?_) (fun q2=>?_))))))
 refine TL.done (TQ.then (TC.condT rfl (TC.seq (TC.draw [(0,true),(1,true),(2,true),(3,true),(4,true),(5,true),(6,true),(7,true),(8,false),(9,false)] [0,8,9] fc_m (by kernel_rfl) (xL2 8 zar rfl rfl (TL.ldA 9 1 [_] rfl rfl rfl zak rfl rfl (TL.miN (v:=(.agg _)) rfl zaI rfl rfl (xmp rfl ?_))))))))
 refine xN0 rfl (xf 0 zab rfl (xL3 0 zaa rfl rfl (xmi rfl (TL.callD [] [] (zay hl) ⟨rfl,rfl,rfl,trivial⟩ trivial zaW rfl rfl rfl rfl rfl (kL3 rfl rfl rfl trivial) (TL.callD [1] [1] (zb8 (p:=⟨1,k⟩) zam) ⟨rfl,rfl,rfl,trivial⟩ ⟨rfl,trivial⟩ zdT rfl rfl rfl rfl rfl (kL3 rfl rfl rfl trivial) (TL.done (TQ.then (TC.draw [(0,true),(1,true),(2,true),(3,true),(4,true),(5,true),(6,true),(7,true),(8,false),(9,false)] [0,8,9] fc_m (by kernel_rfl) ?_))))))))
 refine xL2 8 zar rfl rfl (TL.ldA 9 1 [_] rfl rfl rfl zak rfl rfl (TL.miN (v:=(.agg _)) rfl zaI rfl rfl (xmp rfl (xN0 rfl (xf 0 zab rfl (xL3 0 zaa rfl rfl (xmi rfl (TL.callD [] [] (zay hl) ⟨rfl,rfl,rfl,trivial⟩ trivial zaW rfl rfl rfl rfl rfl (kL3 rfl rfl rfl trivial) ?_))))))))
 refine TL.callD [1] [1] (zb8 (p:=⟨1,k⟩) zam) ⟨rfl,rfl,rfl,trivial⟩ ⟨rfl,trivial⟩ zdT rfl rfl rfl rfl rfl (kL3 rfl rfl rfl trivial) (dI (xmi rfl (TL.add (((x+2:Nat):Int)) rfl rfl (wrN (by omega)) rfl rfl (xai rfl (TL.done (TQ.roundK (x+1) ⟨(by omega),(by omega)⟩ ⟨rfl,trivial⟩ ⟨congrArg (fun z=>some (zaj ab mb 140 71 (z))) (by first | exact zbO (by assumption) | exact zcj (by assumption)),trivial⟩ (kE3 rfl rfl rfl trivial) (kL3 rfl rfl rfl trivial)))))))
 refine TL.done (TQ.then (TC.condF rfl (TC.skip (TQ.inBlock (TQ.then (TC.region (xmi rfl (TL.add (((x+2:Nat):Int)) rfl rfl (wrN (by omega)) rfl rfl ?_))))))))
 refine xai rfl (TL.done (TQ.roundK (x+1) ⟨(by omega),(by omega)⟩ ⟨rfl,trivial⟩ ⟨congrArg (fun z=>some (zaj ab mb 140 71 (z))) (by first | exact zbO (by assumption) | exact zcj (by assumption)),trivial⟩ (kE3 rfl rfl rfl trivial) (kL3 rfl rfl rfl trivial)))
 refine dE rfl (TC.seq (TC.draw [(0,true),(1,true),(2,true),(3,true),(4,true),(5,true),(6,true),(7,false)] [0,8,9] fc_m (by kernel_rfl) (xL2 8 zar rfl rfl (TL.ldA 9 1 [_] rfl rfl rfl zak rfl rfl (TL.miN (v:=(.agg _)) rfl zaI rfl rfl (xmp rfl (xN0 rfl (xf 0 zab rfl ?_))))))))
 refine xL3 0 zaa rfl rfl ?_
 obtain rfl:x=l.nodes.toNat:=by omega
 refine TL.callD [1] [1] (zfP (p:=⟨1,k⟩) zam (zaH) hl) ⟨rfl,rfl,rfl,trivial⟩ ⟨rfl,trivial⟩ zh0 rfl rfl rfl rfl rfl (kL3 rfl rfl rfl trivial) ?_
 rw [show IntKind.i64.wrap ((⟨1,k⟩:Pen).tag+1)=k+1 from wr64 (by show _≤k+1∧k+1<_; omega)]
 refine dG (xmp rfl (xN0 rfl (xf 4 za2 rfl (xli 0 zac rfl rfl (TL.add _ rfl rfl (wr64 (by omega)) rfl rfl (xN0 rfl (xf 4 za2 rfl (TL.st 0 #[_,_,_,_,_] (.int _ _) rfl rfl rfl rfl rfl rfl zac rfl rfl trivial ?_))))))))
 refine TL.done ?_
 refine FQ.end0 (Bs:=[_,_]) [0,1] rfl rfl ⟨rfl,rfl,trivial⟩ ?_
 exact ⟨rfl,rfl⟩
 refine TL.alloc 11 (cs:=#[.pointer none]) zdQ rfl rfl rfl (fun _=>(kL1 rfl trivial)) (fun bk11=>(TL.tree (TT.fin (TL.callD [] [] zbT ⟨rfl,trivial⟩ trivial zdw rfl rfl rfl rfl rfl (kL1 rfl trivial) (TL.stW 8 2 [_,_] rfl rfl rfl rfl rfl rfl zar rfl rfl (kL1 rfl trivial) (TL.stW 11 1 [_] rfl rfl rfl rfl rfl rfl zak rfl rfl (kL1 rfl trivial) (dS (TC.draw [(0,true),(1,true),(2,true),(3,true),(4,true),(5,true),(6,true),(7,false)] [0,8,11] fc_m (by kernel_rfl) (xL2 8 zar rfl rfl (TL.ldA 11 1 [_] rfl rfl rfl zak rfl rfl ?_))))))))))
 refine TL.miN (v:=(.agg _)) rfl zaI rfl rfl (xmp rfl (xN0 rfl (xf 0 zab rfl (xL3 0 zaa rfl rfl (TL.callD [1] [1] (zc8 (p:=⟨1,k⟩) zam (zaH) hl) ⟨rfl,rfl,rfl,trivial⟩ ⟨rfl,trivial⟩ zh2 rfl rfl rfl rfl rfl (kL3 rfl rfl rfl trivial) (dB (xai rfl (dK ?_))))))))
 refine TC.loopK (X:=Nat) [0,2,3] [0,8,11] (fun x=>[(4,.int .i64 ((x+1:Nat):Int))]) (fun x=>[(1,zaj ab mb 140 71 (zbP l true x (zbv l ⟨1,k⟩ σ k true)))]) (fun x=>(x:Int)≤l.nodes) (fun x=>l.nodes.toNat - x) (0) (by omega) ⟨rfl,trivial⟩ ⟨rfl,trivial⟩ (fun x hI=>(TC.sub (env':=[(4,_),(0,_),(2,_),(3,_)]) (L':=[(1,_),(0,_),(8,_),(11,_)]) ⟨rfl,rfl,rfl,rfl,trivial⟩ ⟨rfl,rfl,rfl,rfl,trivial⟩ (sB (xmi rfl (xmp rfl (xN0 rfl (xf 0 zab rfl (xL3 0 zaa rfl rfl (TL.callD [] [] (zaV hl) ⟨rfl,trivial⟩ trivial zbE rfl rfl rfl rfl rfl trivial ?_)))))))))
 refine TL.leq rfl rfl rfl rfl (fun q1=>?_) (fun q1=>?_)
 refine TL.done (TQ.then (TC.condT rfl (TC.skip (TQ.then (TC.seq (TC.block (sA (xmp rfl ?_))))))))
 refine xN0 rfl (xf 0 zab rfl (xL3 0 zaa rfl rfl (xmi rfl (TL.callD [] [] (zbj hl) ⟨rfl,rfl,trivial⟩ trivial zb1 rfl rfl rfl rfl rfl trivial (xmu rfl (TL.ext (.agg _) rfl rfl rfl rfl (TL.ext (.bool _) rfl rfl rfl rfl (TL.alloc 12 (cs:=#[.bool false,.int .i64 0,.int .i64 0,.int .i64 0,.int .i64 0]) zbw rfl rfl rfl (fun _=>trivial) (fun bk12=>?_)))))))))
 refine TL.stW 12 5 [_,_,_,_,_] rfl rfl rfl rfl rfl rfl zaQ rfl rfl trivial (xab rfl (dA (xf 1 zaS rfl (xli 12 zac rfl rfl (TL.eql rfl rfl rfl rfl (fun q2=>?_) (fun q2=>?_))))))
 refine TL.done (TQ.then (TC.condT rfl (TC.seq (TC.draw [(0,true),(1,true),(2,true),(3,true),(4,true),(5,true),(6,true),(7,true),(8,false),(9,false)] [0,8,11] fc_m (by kernel_rfl) (xL2 8 zar rfl rfl (TL.ldA 11 1 [_] rfl rfl rfl zak rfl rfl (TL.miN (v:=(.agg _)) rfl zaI rfl rfl (xmp rfl ?_))))))))
 refine xN0 rfl (xf 0 zab rfl (xL3 0 zaa rfl rfl (xmi rfl (TL.callD [] [] (zay hl) ⟨rfl,rfl,rfl,trivial⟩ trivial zaW rfl rfl rfl rfl rfl (kL3 rfl rfl rfl trivial) (TL.callD [1] [1] (zb8 (p:=⟨1,k⟩) zam) ⟨rfl,rfl,rfl,trivial⟩ ⟨rfl,trivial⟩ zdT rfl rfl rfl rfl rfl (kL3 rfl rfl rfl trivial) (TL.done (TQ.then (TC.draw [(0,true),(1,true),(2,true),(3,true),(4,true),(5,true),(6,true),(7,true),(8,false),(9,false)] [0,8,11] fc_m (by kernel_rfl) ?_))))))))
 refine xL2 8 zar rfl rfl (TL.ldA 11 1 [_] rfl rfl rfl zak rfl rfl (TL.miN (v:=(.agg _)) rfl zaI rfl rfl (xmp rfl (xN0 rfl (xf 0 zab rfl (xL3 0 zaa rfl rfl (xmi rfl (TL.callD [] [] (zay hl) ⟨rfl,rfl,rfl,trivial⟩ trivial zaW rfl rfl rfl rfl rfl (kL3 rfl rfl rfl trivial) ?_))))))))
 refine TL.callD [1] [1] (zb8 (p:=⟨1,k⟩) zam) ⟨rfl,rfl,rfl,trivial⟩ ⟨rfl,trivial⟩ zdT rfl rfl rfl rfl rfl (kL3 rfl rfl rfl trivial) (dI (xmi rfl (TL.add (((x+2:Nat):Int)) rfl rfl (wrN (by omega)) rfl rfl (xai rfl (TL.done (TQ.roundK (x+1) ⟨(by omega),(by omega)⟩ ⟨rfl,trivial⟩ ⟨congrArg (fun z=>some (zaj ab mb 140 71 (z))) (by first | exact zbO (by assumption) | exact zcj (by assumption)),trivial⟩ (kE3 rfl rfl rfl trivial) (kL3 rfl rfl rfl trivial)))))))
 refine TL.done (TQ.then (TC.condF rfl (TC.skip (TQ.inBlock (TQ.then (TC.region (xmi rfl (TL.add (((x+2:Nat):Int)) rfl rfl (wrN (by omega)) rfl rfl ?_))))))))
 refine xai rfl (TL.done (TQ.roundK (x+1) ⟨(by omega),(by omega)⟩ ⟨rfl,trivial⟩ ⟨congrArg (fun z=>some (zaj ab mb 140 71 (z))) (by first | exact zbO (by assumption) | exact zcj (by assumption)),trivial⟩ (kE3 rfl rfl rfl trivial) (kL3 rfl rfl rfl trivial)))
 refine dE rfl (TC.seq (TC.draw [(0,true),(1,true),(2,true),(3,true),(4,true),(5,true),(6,true),(7,false)] [0,8,11] fc_m (by kernel_rfl) (xL2 8 zar rfl rfl (TL.ldA 11 1 [_] rfl rfl rfl zak rfl rfl (TL.miN (v:=(.agg _)) rfl zaI rfl rfl (xmp rfl (xN0 rfl (xf 0 zab rfl ?_))))))))
 refine xL3 0 zaa rfl rfl ?_
 obtain rfl:x=l.nodes.toNat:=by omega
 refine TL.callD [1] [1] (zfP (p:=⟨1,k⟩) zam (zaH) hl) ⟨rfl,rfl,rfl,trivial⟩ ⟨rfl,trivial⟩ zh0 rfl rfl rfl rfl rfl (kL3 rfl rfl rfl trivial) ?_
 rw [show IntKind.i64.wrap ((⟨1,k⟩:Pen).tag+1)=k+1 from wr64 (by show _≤k+1∧k+1<_; omega)]
 refine dG (xmp rfl (xN0 rfl (xf 4 za2 rfl (xli 0 zac rfl rfl (TL.add _ rfl rfl (wr64 (by omega)) rfl rfl (xN0 rfl (xf 4 za2 rfl (TL.st 0 #[_,_,_,_,_] (.int _ _) rfl rfl rfl rfl rfl rfl zac rfl rfl trivial ?_))))))))
 refine TL.done ?_
 refine FQ.end0 (Bs:=[_,_]) [0,1] rfl rfl ⟨rfl,rfl,trivial⟩ ?_
 exact ⟨rfl,rfl⟩
 refine TL.alloc 13 (cs:=#[.pointer none]) zdQ rfl rfl rfl (fun _=>(kL1 rfl trivial)) (fun bk13=>(TL.tree (TT.br (TL.both ?_ ?_))))
 refine TL.callD [] [] zbT ⟨rfl,trivial⟩ trivial zdw rfl rfl rfl rfl rfl (kL1 rfl trivial) (TL.tree (TT.fin (TL.alloc 14 (cs:=#[.int .i64 0,.int .i64 0]) zdR rfl rfl rfl (fun _=>(kL1 rfl trivial)) (fun bk14=>(TL.stW 14 2 [_,_] rfl rfl rfl rfl rfl rfl zar rfl rfl (kL1 rfl trivial) (TL.stW 13 1 [_] rfl rfl rfl rfl rfl rfl zak rfl rfl (kL1 rfl trivial) (dS (TC.draw [(0,true),(1,true),(2,true),(3,true),(4,true),(5,true),(6,true),(7,false)] [0,13,14] fc_m (by kernel_rfl) (xL2 14 zar rfl rfl (TL.ldA 13 1 [_] rfl rfl rfl zak rfl rfl ?_))))))))))
 refine TL.miN (v:=(.agg _)) rfl zaI rfl rfl (xmp rfl (xN0 rfl (xf 0 zab rfl (xL3 0 zaa rfl rfl (TL.callD [1] [1] (zc8 (p:=⟨1,k⟩) zam (zaH) hl) ⟨rfl,rfl,rfl,trivial⟩ ⟨rfl,trivial⟩ zh2 rfl rfl rfl rfl rfl (kL3 rfl rfl rfl trivial) (dB (xai rfl (dK ?_))))))))
 refine TC.loopK (X:=Nat) [0,2,3] [0,13,14] (fun x=>[(4,.int .i64 ((x+1:Nat):Int))]) (fun x=>[(1,zaj ab mb 140 71 (zbP l true x (zbv l ⟨1,k⟩ σ k true)))]) (fun x=>(x:Int)≤l.nodes) (fun x=>l.nodes.toNat - x) (0) (by omega) ⟨rfl,trivial⟩ ⟨rfl,trivial⟩ (fun x hI=>(TC.sub (env':=[(4,_),(0,_),(2,_),(3,_)]) (L':=[(1,_),(0,_),(13,_),(14,_)]) ⟨rfl,rfl,rfl,rfl,trivial⟩ ⟨rfl,rfl,rfl,rfl,trivial⟩ (sB (xmi rfl (xmp rfl (xN0 rfl (xf 0 zab rfl (xL3 0 zaa rfl rfl (TL.callD [] [] (zaV hl) ⟨rfl,trivial⟩ trivial zbE rfl rfl rfl rfl rfl trivial ?_)))))))))
 refine TL.leq rfl rfl rfl rfl (fun q1=>?_) (fun q1=>?_)
 refine TL.done (TQ.then (TC.condT rfl (TC.skip (TQ.then (TC.seq (TC.block (sA (xmp rfl ?_))))))))
 refine xN0 rfl (xf 0 zab rfl (xL3 0 zaa rfl rfl (xmi rfl (TL.callD [] [] (zbj hl) ⟨rfl,rfl,trivial⟩ trivial zb1 rfl rfl rfl rfl rfl trivial (xmu rfl (TL.ext (.agg _) rfl rfl rfl rfl (TL.ext (.bool _) rfl rfl rfl rfl (TL.alloc 15 (cs:=#[.bool false,.int .i64 0,.int .i64 0,.int .i64 0,.int .i64 0]) zbw rfl rfl rfl (fun _=>trivial) (fun bk15=>?_)))))))))
 refine TL.stW 15 5 [_,_,_,_,_] rfl rfl rfl rfl rfl rfl zaQ rfl rfl trivial (xab rfl (dA (xf 1 zaS rfl (xli 15 zac rfl rfl (TL.eql rfl rfl rfl rfl (fun q2=>?_) (fun q2=>?_))))))
 refine TL.done (TQ.then (TC.condT rfl (TC.seq (TC.draw [(0,true),(1,true),(2,true),(3,true),(4,true),(5,true),(6,true),(7,true),(8,false),(9,false)] [0,13,14] fc_m (by kernel_rfl) (xL2 14 zar rfl rfl (TL.ldA 13 1 [_] rfl rfl rfl zak rfl rfl (TL.miN (v:=(.agg _)) rfl zaI rfl rfl (xmp rfl ?_))))))))
 refine xN0 rfl (xf 0 zab rfl (xL3 0 zaa rfl rfl (xmi rfl (TL.callD [] [] (zay hl) ⟨rfl,rfl,rfl,trivial⟩ trivial zaW rfl rfl rfl rfl rfl (kL3 rfl rfl rfl trivial) (TL.callD [1] [1] (zb8 (p:=⟨1,k⟩) zam) ⟨rfl,rfl,rfl,trivial⟩ ⟨rfl,trivial⟩ zdT rfl rfl rfl rfl rfl (kL3 rfl rfl rfl trivial) (TL.done (TQ.then (TC.draw [(0,true),(1,true),(2,true),(3,true),(4,true),(5,true),(6,true),(7,true),(8,false),(9,false)] [0,13,14] fc_m (by kernel_rfl) ?_))))))))
 refine xL2 14 zar rfl rfl (TL.ldA 13 1 [_] rfl rfl rfl zak rfl rfl (TL.miN (v:=(.agg _)) rfl zaI rfl rfl (xmp rfl (xN0 rfl (xf 0 zab rfl (xL3 0 zaa rfl rfl (xmi rfl (TL.callD [] [] (zay hl) ⟨rfl,rfl,rfl,trivial⟩ trivial zaW rfl rfl rfl rfl rfl (kL3 rfl rfl rfl trivial) ?_))))))))
 refine TL.callD [1] [1] (zb8 (p:=⟨1,k⟩) zam) ⟨rfl,rfl,rfl,trivial⟩ ⟨rfl,trivial⟩ zdT rfl rfl rfl rfl rfl (kL3 rfl rfl rfl trivial) (dI (xmi rfl (TL.add (((x+2:Nat):Int)) rfl rfl (wrN (by omega)) rfl rfl (xai rfl (TL.done (TQ.roundK (x+1) ⟨(by omega),(by omega)⟩ ⟨rfl,trivial⟩ ⟨congrArg (fun z=>some (zaj ab mb 140 71 (z))) (by first | exact zbO (by assumption) | exact zcj (by assumption)),trivial⟩ (kE3 rfl rfl rfl trivial) (kL3 rfl rfl rfl trivial)))))))
 refine TL.done (TQ.then (TC.condF rfl (TC.skip (TQ.inBlock (TQ.then (TC.region (xmi rfl (TL.add (((x+2:Nat):Int)) rfl rfl (wrN (by omega)) rfl rfl ?_))))))))
 refine xai rfl (TL.done (TQ.roundK (x+1) ⟨(by omega),(by omega)⟩ ⟨rfl,trivial⟩ ⟨congrArg (fun z=>some (zaj ab mb 140 71 (z))) (by first | exact zbO (by assumption) | exact zcj (by assumption)),trivial⟩ (kE3 rfl rfl rfl trivial) (kL3 rfl rfl rfl trivial)))
 refine dE rfl (TC.seq (TC.draw [(0,true),(1,true),(2,true),(3,true),(4,true),(5,true),(6,true),(7,false)] [0,13,14] fc_m (by kernel_rfl) (xL2 14 zar rfl rfl (TL.ldA 13 1 [_] rfl rfl rfl zak rfl rfl (TL.miN (v:=(.agg _)) rfl zaI rfl rfl (xmp rfl (xN0 rfl (xf 0 zab rfl ?_))))))))
 refine xL3 0 zaa rfl rfl ?_
 obtain rfl:x=l.nodes.toNat:=by omega
 refine TL.callD [1] [1] (zfP (p:=⟨1,k⟩) zam (zaH) hl) ⟨rfl,rfl,rfl,trivial⟩ ⟨rfl,trivial⟩ zh0 rfl rfl rfl rfl rfl (kL3 rfl rfl rfl trivial) ?_
 rw [show IntKind.i64.wrap ((⟨1,k⟩:Pen).tag+1)=k+1 from wr64 (by show _≤k+1∧k+1<_; omega)]
 refine dG (xmp rfl (xN0 rfl (xf 4 za2 rfl (xli 0 zac rfl rfl (TL.add _ rfl rfl (wr64 (by omega)) rfl rfl (xN0 rfl (xf 4 za2 rfl (TL.st 0 #[_,_,_,_,_] (.int _ _) rfl rfl rfl rfl rfl rfl zac rfl rfl trivial ?_))))))))
 refine TL.done ?_
 refine FQ.end0 (Bs:=[_,_]) [0,1] rfl rfl ⟨rfl,rfl,trivial⟩ ?_
 exact ⟨rfl,rfl⟩
 refine TL.alloc 16 (cs:=#[.int .i64 0,.int .i64 0]) zdR rfl rfl rfl (fun _=>(kL1 rfl trivial)) (fun bk16=>(TL.tree (TT.fin (TL.callD [] [] zbT ⟨rfl,trivial⟩ trivial zdw rfl rfl rfl rfl rfl (kL1 rfl trivial) (TL.stW 16 2 [_,_] rfl rfl rfl rfl rfl rfl zar rfl rfl (kL1 rfl trivial) (TL.stW 13 1 [_] rfl rfl rfl rfl rfl rfl zak rfl rfl (kL1 rfl trivial) (dS (TC.draw [(0,true),(1,true),(2,true),(3,true),(4,true),(5,true),(6,true),(7,false)] [0,13,16] fc_m (by kernel_rfl) (xL2 16 zar rfl rfl (TL.ldA 13 1 [_] rfl rfl rfl zak rfl rfl ?_))))))))))
 refine TL.miN (v:=(.agg _)) rfl zaI rfl rfl (xmp rfl (xN0 rfl (xf 0 zab rfl (xL3 0 zaa rfl rfl (TL.callD [1] [1] (zc8 (p:=⟨1,k⟩) zam (zaH) hl) ⟨rfl,rfl,rfl,trivial⟩ ⟨rfl,trivial⟩ zh2 rfl rfl rfl rfl rfl (kL3 rfl rfl rfl trivial) (dB (xai rfl (dK ?_))))))))
 refine TC.loopK (X:=Nat) [0,2,3] [0,13,16] (fun x=>[(4,.int .i64 ((x+1:Nat):Int))]) (fun x=>[(1,zaj ab mb 140 71 (zbP l true x (zbv l ⟨1,k⟩ σ k true)))]) (fun x=>(x:Int)≤l.nodes) (fun x=>l.nodes.toNat - x) (0) (by omega) ⟨rfl,trivial⟩ ⟨rfl,trivial⟩ (fun x hI=>(TC.sub (env':=[(4,_),(0,_),(2,_),(3,_)]) (L':=[(1,_),(0,_),(13,_),(16,_)]) ⟨rfl,rfl,rfl,rfl,trivial⟩ ⟨rfl,rfl,rfl,rfl,trivial⟩ (sB (xmi rfl (xmp rfl (xN0 rfl (xf 0 zab rfl (xL3 0 zaa rfl rfl (TL.callD [] [] (zaV hl) ⟨rfl,trivial⟩ trivial zbE rfl rfl rfl rfl rfl trivial ?_)))))))))
 refine TL.leq rfl rfl rfl rfl (fun q1=>?_) (fun q1=>?_)
 refine TL.done (TQ.then (TC.condT rfl (TC.skip (TQ.then (TC.seq (TC.block (sA (xmp rfl ?_))))))))
 refine xN0 rfl (xf 0 zab rfl (xL3 0 zaa rfl rfl (xmi rfl (TL.callD [] [] (zbj hl) ⟨rfl,rfl,trivial⟩ trivial zb1 rfl rfl rfl rfl rfl trivial (xmu rfl (TL.ext (.agg _) rfl rfl rfl rfl (TL.ext (.bool _) rfl rfl rfl rfl (TL.alloc 17 (cs:=#[.bool false,.int .i64 0,.int .i64 0,.int .i64 0,.int .i64 0]) zbw rfl rfl rfl (fun _=>trivial) (fun bk17=>?_)))))))))
 refine TL.stW 17 5 [_,_,_,_,_] rfl rfl rfl rfl rfl rfl zaQ rfl rfl trivial (xab rfl (dA (xf 1 zaS rfl (xli 17 zac rfl rfl (TL.eql rfl rfl rfl rfl (fun q2=>?_) (fun q2=>?_))))))
 refine TL.done (TQ.then (TC.condT rfl (TC.seq (TC.draw [(0,true),(1,true),(2,true),(3,true),(4,true),(5,true),(6,true),(7,true),(8,false),(9,false)] [0,13,16] fc_m (by kernel_rfl) (xL2 16 zar rfl rfl (TL.ldA 13 1 [_] rfl rfl rfl zak rfl rfl (TL.miN (v:=(.agg _)) rfl zaI rfl rfl (xmp rfl ?_))))))))
 refine xN0 rfl (xf 0 zab rfl (xL3 0 zaa rfl rfl (xmi rfl (TL.callD [] [] (zay hl) ⟨rfl,rfl,rfl,trivial⟩ trivial zaW rfl rfl rfl rfl rfl (kL3 rfl rfl rfl trivial) (TL.callD [1] [1] (zb8 (p:=⟨1,k⟩) zam) ⟨rfl,rfl,rfl,trivial⟩ ⟨rfl,trivial⟩ zdT rfl rfl rfl rfl rfl (kL3 rfl rfl rfl trivial) (TL.done (TQ.then (TC.draw [(0,true),(1,true),(2,true),(3,true),(4,true),(5,true),(6,true),(7,true),(8,false),(9,false)] [0,13,16] fc_m (by kernel_rfl) ?_))))))))
 refine xL2 16 zar rfl rfl (TL.ldA 13 1 [_] rfl rfl rfl zak rfl rfl (TL.miN (v:=(.agg _)) rfl zaI rfl rfl (xmp rfl (xN0 rfl (xf 0 zab rfl (xL3 0 zaa rfl rfl (xmi rfl (TL.callD [] [] (zay hl) ⟨rfl,rfl,rfl,trivial⟩ trivial zaW rfl rfl rfl rfl rfl (kL3 rfl rfl rfl trivial) ?_))))))))
 refine TL.callD [1] [1] (zb8 (p:=⟨1,k⟩) zam) ⟨rfl,rfl,rfl,trivial⟩ ⟨rfl,trivial⟩ zdT rfl rfl rfl rfl rfl (kL3 rfl rfl rfl trivial) (dI (xmi rfl (TL.add (((x+2:Nat):Int)) rfl rfl (wrN (by omega)) rfl rfl (xai rfl (TL.done (TQ.roundK (x+1) ⟨(by omega),(by omega)⟩ ⟨rfl,trivial⟩ ⟨congrArg (fun z=>some (zaj ab mb 140 71 (z))) (by first | exact zbO (by assumption) | exact zcj (by assumption)),trivial⟩ (kE3 rfl rfl rfl trivial) (kL3 rfl rfl rfl trivial)))))))
 refine TL.done (TQ.then (TC.condF rfl (TC.skip (TQ.inBlock (TQ.then (TC.region (xmi rfl (TL.add (((x+2:Nat):Int)) rfl rfl (wrN (by omega)) rfl rfl ?_))))))))
 refine xai rfl (TL.done (TQ.roundK (x+1) ⟨(by omega),(by omega)⟩ ⟨rfl,trivial⟩ ⟨congrArg (fun z=>some (zaj ab mb 140 71 (z))) (by first | exact zbO (by assumption) | exact zcj (by assumption)),trivial⟩ (kE3 rfl rfl rfl trivial) (kL3 rfl rfl rfl trivial)))
 refine dE rfl (TC.seq (TC.draw [(0,true),(1,true),(2,true),(3,true),(4,true),(5,true),(6,true),(7,false)] [0,13,16] fc_m (by kernel_rfl) (xL2 16 zar rfl rfl (TL.ldA 13 1 [_] rfl rfl rfl zak rfl rfl (TL.miN (v:=(.agg _)) rfl zaI rfl rfl (xmp rfl (xN0 rfl (xf 0 zab rfl ?_))))))))
 refine xL3 0 zaa rfl rfl ?_
 obtain rfl:x=l.nodes.toNat:=by omega
 refine TL.callD [1] [1] (zfP (p:=⟨1,k⟩) zam (zaH) hl) ⟨rfl,rfl,rfl,trivial⟩ ⟨rfl,trivial⟩ zh0 rfl rfl rfl rfl rfl (kL3 rfl rfl rfl trivial) ?_
 rw [show IntKind.i64.wrap ((⟨1,k⟩:Pen).tag+1)=k+1 from wr64 (by show _≤k+1∧k+1<_; omega)]
 refine dG (xmp rfl (xN0 rfl (xf 4 za2 rfl (xli 0 zac rfl rfl (TL.add _ rfl rfl (wr64 (by omega)) rfl rfl (xN0 rfl (xf 4 za2 rfl (TL.st 0 #[_,_,_,_,_] (.int _ _) rfl rfl rfl rfl rfl rfl zac rfl rfl trivial ?_))))))))
 refine TL.done ?_
 refine FQ.end0 (Bs:=[_,_]) [0,1] rfl rfl ⟨rfl,rfl,trivial⟩ ?_
 exact ⟨rfl,rfl⟩
theorem zja {l:Lay} (hl:l.Ok) {pb ab mb:Nat} {σ:Array UInt64} {k v r:Int} {h:Nat} {par rt:Int→Int} (hS:SeenF l σ par rt) (hU:Up par (V0 l) h (l.vertex 0 v) r) (hh:(h:Int)≤l.nodes):FnD Tryz.prog 67 [.pointer (some ⟨pb,0,none⟩),.int .i64 v] [pt pb (.cells #[.int .i64 l.V,.int .i64 l.S,.int .i64 l.T,.pointer (some ⟨ab,0,none⟩),.int .i64 k] 117),zaj ab mb 140 71 (σ)] (.tuple #[.int .i64 r,.int .i64 ((h:Nat):Int)]) [pt pb (.cells #[.int .i64 l.V,.int .i64 l.S,.int .i64 l.T,.pointer (some ⟨ab,0,none⟩),.int .i64 k] 117),zaj ab mb 140 71 (σ)]:=by
 have hnb:=za0 hl
 refine Fn.enter (Tryz.func67) rfl rfl (fun w0 R=>?_)
 refine sA (xai rfl (xai rfl (dA (xmp rfl (xN0 rfl (xf 3 zea rfl (xlp 0 zhT rfl rfl (TL.callD [] [] zbT ⟨rfl,trivial⟩ trivial zdw rfl rfl rfl rfl rfl trivial ?_))))))))
 refine TL.alloc 2 (cs:=#[.pointer none]) zdQ rfl rfl rfl (fun _=>trivial) (fun bk2=>(TL.stW 2 1 [_] rfl rfl rfl rfl rfl rfl zak rfl rfl trivial (dA (xmp rfl (xN0 rfl (xf 0 zab rfl (xL3 0 zaa rfl rfl (xmi rfl (TL.callD [] [] (zcT hl) ⟨rfl,rfl,rfl,trivial⟩ trivial zgg rfl rfl rfl rfl rfl trivial ?_)))))))))
 refine xai rfl (xai rfl (dS (TC.seq (TC.draw [(0,true),(1,true),(2,true),(3,true),(4,true),(5,true),(6,true),(7,true),(8,true),(9,true),(10,true),(11,false),(12,false),(13,true)] [0,2] fc_m (by kernel_rfl) (TL.ldA 2 1 [_] rfl rfl rfl zak rfl rfl (TL.miN (v:=(.agg _)) rfl zaI rfl rfl (xmp rfl (xN0 rfl ?_))))))))
 refine xf 0 zab rfl (xL3 0 zaa rfl rfl (xmp rfl (xN0 rfl (xf 0 zab rfl (xL3 0 zaa rfl rfl (xmi rfl (TL.callD [] [] (zay hl) ⟨rfl,rfl,rfl,trivial⟩ trivial zaW rfl rfl rfl rfl rfl (kL2 rfl rfl trivial) (TL.callD [1] [1] (zkX zam (zev) hl (fun _=>rfl)) ⟨rfl,rfl,rfl,trivial⟩ ⟨rfl,trivial⟩ zn0 rfl rfl rfl rfl rfl (kL2 rfl rfl trivial) ?_))))))))
 refine TL.conseq 1 (B:=zaj ab mb 140 71 (σ)) rfl (fun z hz=>by unfold zen at hz; dsimp only at hz; split at hz<;>exact hz) (kL2 rfl rfl trivial) (xai rfl (dK (TC.loopK (X:=Nat×Int×Nat) [0,4,5,6] [0,1,2] (fun ⟨u,x,hi⟩=>[(7,.int .i64 x),(8,.int .i64 ((hi:Nat):Int)),(9,.int .i64 (zaY l σ (l.field x 2)))]) (fun ⟨u,x,hi⟩=>[]) (fun ⟨u,x,hi⟩=>Up par (V0 l) u x r∧hi+u=h+1) (fun ⟨u,x,hi⟩=>u) ((h,l.vertex 0 v,1)) ⟨hU,Nat.add_comm _ _⟩ ⟨rfl,rfl,rfl,trivial⟩ trivial (fun y hI=>?_))))
 obtain ⟨u,x,hi⟩:=y
 obtain ⟨hUx,hhu⟩:=hI
 replace hUx:Up par (V0 l) u x r:=hUx
 replace hhu:hi+u=h+1:=hhu
 have hmx:=hS.mn x hUx.first
 have hup:=hUx.pos
 refine TC.sub (env':=[(7,_),(8,_),(9,_),(0,_),(4,_),(5,_),(6,_)]) (L':=[(0,_),(1,_),(2,_)]) ⟨rfl,rfl,rfl,rfl,rfl,rfl,rfl,trivial⟩ ⟨rfl,rfl,rfl,trivial⟩ (sB (xmi rfl (TL.neq rfl rfl rfl rfl (fun q1=>?_) (fun q1=>?_))))
 refine xmt rfl (xmi rfl (xmp rfl (xN0 rfl (xf 0 zab rfl (xL3 0 zaa rfl rfl (TL.callD [] [] (zaV hl) ⟨rfl,trivial⟩ trivial zbE rfl rfl rfl rfl rfl trivial ?_))))))
 obtain ⟨u2,rfl,hu2,hU2⟩:=hUx.next (by rw [←hmx]; assumption)
 rw [←hmx] at hU2
 refine TL.leqT rfl rfl (by omega) rfl rfl (xpT rfl (TL.done (TQ.then (TC.condT rfl (TC.skip (TQ.then (TC.seq (TC.block ?_))))))))
 refine sA (xmi rfl (xai rfl (dG (xmi rfl (TL.add (((hi+1:Nat):Int)) rfl rfl (wrN (by omega)) rfl rfl (xai rfl (TL.done (TQ.inBlock ?_))))))))
 refine TQ.then (TC.draw [(0,true),(1,true),(2,true),(3,true),(4,true),(5,true),(6,true),(7,true),(8,true),(9,true),(10,true),(11,false),(12,false),(13,true)] [0,2] fc_m (by kernel_rfl) (TL.ldA 2 1 [_] rfl rfl rfl zak rfl rfl (TL.miN (v:=(.agg _)) rfl zaI rfl rfl (xmp rfl (xN0 rfl (xf 0 zab rfl (xL3 0 zaa rfl rfl (xmp rfl ?_))))))))
 refine xN0 rfl (xf 0 zab rfl (xL3 0 zaa rfl rfl (xmi rfl (TL.callD [] [] (zay hl) ⟨rfl,rfl,rfl,trivial⟩ trivial zaW rfl rfl rfl rfl rfl (kL2 rfl rfl trivial) (TL.callD [1] [1] (zkX zam (zev) hl (fun _=>rfl)) ⟨rfl,rfl,rfl,trivial⟩ ⟨rfl,trivial⟩ zn0 rfl rfl rfl rfl rfl (kL2 rfl rfl trivial) (TL.conseq 1 (B:=zaj ab mb 140 71 (σ)) rfl (fun z hz=>by unfold zen at hz; dsimp only at hz; split at hz<;>exact hz) (kL2 rfl rfl trivial) (xai rfl (TL.done ?_))))))))
 refine TQ.roundK ((u2,_,hi+1)) ⟨⟨hU2,(show hi+1+u2=h+1 by omega)⟩,(show u2<u2+1 by omega)⟩ ⟨rfl,rfl,rfl,trivial⟩ trivial (kE4 rfl rfl rfl rfl trivial) (kL3 rfl rfl rfl trivial)
 refine xmf rfl (xo rfl (xo rfl (xo rfl (xo rfl (xo rfl (xo rfl (xo rfl (xpF rfl ?_))))))))
 refine dE rfl (sA (xmi rfl (xmi rfl (xai rfl (xai rfl (dR ?_))))))
 refine FQ.ret2 (v:=(.int _ _)) (x:=(.int _ _)) (Bs:=[_,_]) [0,1] rfl rfl rfl rfl ⟨rfl,rfl,trivial⟩ ?_
 obtain ⟨hu1,hxr⟩:=hUx.uniq (.top hUx.first (by rw [←hmx]; omega))
 exact ⟨by rw [hxr,show hi=h by omega],rfl⟩
theorem zgV {l:Lay} (hl:l.Ok) {kb ab mb:Nat} {c:CollectS} {σ:Array UInt64} {now:Int}:FnD Tryz.prog 63 [.pointer (some ⟨kb,0,none⟩),.pointer (some ⟨ab,0,none⟩),.int .i64 now] [zal 168 157 189 kb l (c),zaj ab mb 140 71 (σ)] (.bool (c.stp l σ now).done) [zal 168 157 189 kb l (c.stp l σ now),zaj ab mb 140 71 (σ)]:=FnD.arenaA2 fun _=>⟨_,zoZ hl⟩
theorem zlL {h:Int} (hh:h<0):FnD Tryz.prog 70 [.int .i64 h] [] (.int .i64 0) []:=by
 refine Fn.enter (Tryz.func70) rfl rfl (fun w0 R=>?_)
 refine sA (xai rfl (dB (xmi rfl (TL.lssT rfl rfl hh rfl rfl (dT rfl (xai rfl (dRR ?_)))))))
 refine FQ.ret1 (v:=(.int _ _)) (Bs:=[]) [] rfl rfl rfl trivial ?_
 exact ⟨rfl,rfl⟩
set_option maxHeartbeats 1000000 in
theorem zl6 {l:Lay} (hl:l.Ok) {da oa ua:Option Addr} {dn dc on oc un uc:Nat} {Ad:Assn} {bd offd bo offo bu offu:Nat} {fd:Nat→Int} {fo fu:Nat→Op4} (hda:0<dn→da=some ⟨bd,offd,none⟩) (hAd:zbB Ad encU 1 bd offd dn fd) (hfd:∀ i,i<dn→0≤fd i∧fd i<18446744073709551616) (hdn:dn≤60) (hoa:0<on→oa=some ⟨bo,offo,none⟩) (hAo:zbB Ad zjy 4 bo offo on fo) (hoc:on≤oc) (hon:on≤40) (hua:0<un→ua=some ⟨bu,offu,none⟩) (hAu:zbB Ad zjy 4 bu offu un fu) (huc:un≤uc) (hun:un≤12)  : Go.Eng.Fn Tryz.prog 58 [.agg #[.int .i64 l.V,.int .i64 l.S,.int .i64 l.T,.slice da dn dc,.slice oa on oc,.slice ua un uc]] [Ad] (fun x Bs=>∃ pb ab mb,x=.pointer (some ⟨pb,0,none⟩)∧Bs=[Ad,pt pb (.cells #[.int .i64 l.V,.int .i64 l.S,.int .i64 l.T,.pointer (some ⟨ab,0,none⟩),.int .i64 0] 117),zaj ab mb 140 71 (zhq l dn fd (Array.replicate l.cells.toNat 0))]):=by
 refine Fn.enter (Tryz.func58) rfl rfl (fun w0 R=>?_)
 refine sA (xB 1 rfl (fun bk1=>(TL.asg (.pointer none) rfl rfl rfl (dA (xf 0 zbl rfl (xL3 1 zaa rfl rfl (xf 3 zha rfl (xls 1 zgZ rfl rfl (TL.call [0] [0,2] (zll hl hda hAd hfd (by omega)) ⟨rfl,rfl,trivial⟩ ⟨rfl,trivial⟩ zpZ rfl rfl rfl rfl ?_)))))))))
 rintro v Bs ⟨ab,mb,rfl,rfl⟩
 refine ⟨rfl,trivial,?_⟩
 refine xmu rfl (TL.ext (.pointer (some ⟨_,_,none⟩)) rfl rfl rfl rfl (xei rfl rfl (xap rfl (xai rfl (dB (xmi rfl (TL.neqF rfl rfl (by decide) rfl rfl (xmf rfl ?_))))))))
 refine xmp rfl (TL.nilP false rfl rfl zpN rfl rfl rfl (xpF rfl (dF rfl (xf 0 zbl rfl (xL3 1 zaa rfl rfl (xmp rfl (TL.bld [.int .i64 0,.int .i64 0,.int .i64 0,.pointer none,.int .i64 0] [(.agg _),(.pointer (some ⟨_,_,none⟩))] [_,_,_,_,_] zqR zq0 ⟨rfl,rfl,trivial⟩ ⟨rfl,rfl⟩ rfl rfl (xB 3 rfl (fun bk3=>?_)))))))))
 refine xap rfl (dR ?_)
 refine FQ.ret1 (v:=(.pointer (some ⟨_,_,none⟩))) (Bs:=[_,_,_]) [0,3,2] rfl rfl rfl ⟨rfl,rfl,rfl,trivial⟩ ?_
 exact ⟨_,_,_,rfl,rfl⟩
theorem zhI {V S T:Int}  {da oa ua:Option Addr} {dn dc on oc un uc:Nat}:FnD Tryz.prog 56 [.agg #[.int .i64 V,.int .i64 S,.int .i64 T,.slice da dn dc,.slice oa on oc,.slice ua un uc]] [] (.bool (decide (okL V S T∧V≤8∧S≤12∧dn≤60∧on≤40∧un≤12))) []:=by
 refine Fn.enter (Tryz.func56) rfl rfl (fun w0 R=>?_)
 refine sA (xB 0 rfl (fun bk0=>(xaf rfl (dA (xf 0 zbl rfl (xf 0 zaJ rfl (xli 0 zac rfl rfl (xf 0 zbl rfl (xf 1 zby rfl ?_)))))))))
 refine xli 0 zac rfl rfl (xf 0 zbl rfl (xf 2 zeD rfl (xli 0 zac rfl rfl (TL.bld [.int .i64 0,.int .i64 0,.int .i64 0] [(.int _ _),(.int _ _),(.int _ _)] [_,_,_] zqQ zqZ ⟨rfl,rfl,rfl,trivial⟩ ⟨rfl,rfl⟩ rfl rfl (TL.callD [] [] zjU ⟨rfl,trivial⟩ trivial zsi rfl rfl rfl rfl rfl trivial (TL.casesP rfl (fun q1=>?_) (fun q1=>?_)))))))
 refine xmt rfl (xf 0 zbl rfl (xf 0 zaJ rfl (xli 0 zac rfl rfl (TL.leq rfl rfl rfl rfl (fun q2=>?_) (fun q2=>?_)))))
 refine xpT rfl (xmt rfl (xf 0 zbl rfl (xf 1 zby rfl (xli 0 zac rfl rfl (TL.leq rfl rfl rfl rfl (fun q3=>?_) (fun q3=>?_))))))
 refine xpT rfl (xmt rfl (xf 3 zha rfl (xls 0 zgZ rfl rfl (xz za6 rfl (TL.leq rfl rfl rfl rfl (fun q4=>?_) (fun q4=>?_))))))
 refine xpT rfl (xmt rfl (xf 4 zg9 rfl (xls 0 ziF rfl rfl (xz zb6 rfl (TL.leq rfl rfl rfl rfl (fun q5=>?_) (fun q5=>?_))))))
 refine xpT rfl (xmt rfl (xf 5 zg8 rfl (xls 0 ziF rfl rfl (xz zb6 rfl (TL.leqV rfl rfl rfl rfl (TL.pickT (.bool _) rfl rfl rfl rfl (xab rfl (dR ?_))))))))
 refine FQ.ret1 (v:=(.bool _)) (Bs:=[]) [] rfl rfl rfl trivial ?_
 exact ⟨congrArg Value.bool (by first | (simp [*]; done) | (simp [*]; omega) | (rw [eq_comm,decide_eq_false_iff_not]; intro hc; obtain ⟨c1,c2,c3,c4,c5,c6⟩:=hc; first | omega | (simp_all; done)) | (rw [eq_comm,decide_eq_true_iff]; refine ⟨by simp_all,?_⟩; omega) | (rw [decide_eq_decide]; constructor<;>intro hc<;>first | omega | exact ⟨by simp_all,by omega⟩)),rfl⟩
 refine xpG rfl (xmf rfl (xo rfl (xo rfl (xo rfl (xo rfl (xpF rfl (xaf rfl (dR ?_))))))))
 refine FQ.ret1 (v:=(.bool false)) (Bs:=[]) [] rfl rfl rfl trivial ?_
 exact ⟨congrArg Value.bool (by first | (simp [*]; done) | (simp [*]; omega) | (rw [eq_comm,decide_eq_false_iff_not]; intro hc; obtain ⟨c1,c2,c3,c4,c5,c6⟩:=hc; first | omega | (simp_all; done)) | (rw [eq_comm,decide_eq_true_iff]; refine ⟨by simp_all,?_⟩; omega) | (rw [decide_eq_decide]; constructor<;>intro hc<;>first | omega | exact ⟨by simp_all,by omega⟩)),rfl⟩
 refine xpG rfl (xmf rfl (xo rfl (xo rfl (xo rfl (xo rfl (xpF rfl (xmf rfl (xo rfl ?_))))))))
 refine xo rfl (xo rfl (xo rfl (xpF rfl (xaf rfl (dR ?_)))))
 refine FQ.ret1 (v:=(.bool false)) (Bs:=[]) [] rfl rfl rfl trivial ?_
 exact ⟨congrArg Value.bool (by first | (simp [*]; done) | (simp [*]; omega) | (rw [eq_comm,decide_eq_false_iff_not]; intro hc; obtain ⟨c1,c2,c3,c4,c5,c6⟩:=hc; first | omega | (simp_all; done)) | (rw [eq_comm,decide_eq_true_iff]; refine ⟨by simp_all,?_⟩; omega) | (rw [decide_eq_decide]; constructor<;>intro hc<;>first | omega | exact ⟨by simp_all,by omega⟩)),rfl⟩
 refine xpG rfl (xmf rfl (xo rfl (xo rfl (xo rfl (xo rfl (xpF rfl (xmf rfl (xo rfl ?_))))))))
 refine xo rfl (xo rfl (xo rfl (xpF rfl (xmf rfl (xo rfl (xo rfl (xo rfl (xo rfl ?_))))))))
 refine xpF rfl (xaf rfl (dR ?_))
 refine FQ.ret1 (v:=(.bool false)) (Bs:=[]) [] rfl rfl rfl trivial ?_
 exact ⟨congrArg Value.bool (by first | (simp [*]; done) | (simp [*]; omega) | (rw [eq_comm,decide_eq_false_iff_not]; intro hc; obtain ⟨c1,c2,c3,c4,c5,c6⟩:=hc; first | omega | (simp_all; done)) | (rw [eq_comm,decide_eq_true_iff]; refine ⟨by simp_all,?_⟩; omega) | (rw [decide_eq_decide]; constructor<;>intro hc<;>first | omega | exact ⟨by simp_all,by omega⟩)),rfl⟩
 refine xpG rfl (xmf rfl (xo rfl (xo rfl (xo rfl (xo rfl (xpF rfl (xmf rfl (xo rfl ?_))))))))
 refine xo rfl (xo rfl (xo rfl (xpF rfl (xmf rfl (xo rfl (xo rfl (xo rfl (xo rfl ?_))))))))
 refine xpF rfl (xmf rfl (xo rfl (xo rfl (xo rfl (xo rfl (xpF rfl (xaf rfl (dR ?_))))))))
 refine FQ.ret1 (v:=(.bool false)) (Bs:=[]) [] rfl rfl rfl trivial ?_
 exact ⟨congrArg Value.bool (by first | (simp [*]; done) | (simp [*]; omega) | (rw [eq_comm,decide_eq_false_iff_not]; intro hc; obtain ⟨c1,c2,c3,c4,c5,c6⟩:=hc; first | omega | (simp_all; done)) | (rw [eq_comm,decide_eq_true_iff]; refine ⟨by simp_all,?_⟩; omega) | (rw [decide_eq_decide]; constructor<;>intro hc<;>first | omega | exact ⟨by simp_all,by omega⟩)),rfl⟩
 refine xmf rfl (xo rfl (xo rfl (xo rfl (xo rfl (xpF rfl (xmf rfl (xo rfl (xo rfl ?_))))))))
 refine xo rfl (xo rfl (xpF rfl (xmf rfl (xo rfl (xo rfl (xo rfl (xo rfl (xpF rfl ?_))))))))
 refine xmf rfl (xo rfl (xo rfl (xo rfl (xo rfl (xpF rfl (xmf rfl (xo rfl (xo rfl ?_))))))))
 refine xo rfl (xo rfl (xpF rfl (xaf rfl (dR ?_))))
 refine FQ.ret1 (v:=(.bool false)) (Bs:=[]) [] rfl rfl rfl trivial ?_
 exact ⟨congrArg Value.bool (by first | (simp [*]; done) | (simp [*]; omega) | (rw [eq_comm,decide_eq_false_iff_not]; intro hc; obtain ⟨c1,c2,c3,c4,c5,c6⟩:=hc; first | omega | (simp_all; done)) | (rw [eq_comm,decide_eq_true_iff]; refine ⟨by simp_all,?_⟩; omega) | (rw [decide_eq_decide]; constructor<;>intro hc<;>first | omega | exact ⟨by simp_all,by omega⟩)),rfl⟩
theorem zda  : FnD Tryz.prog 57 [] [] (.bool true) []:=by
 obtain ⟨h1,h2,h3,h4,h5,h6⟩:=zpk
 refine Fn.enter (Tryz.func57) rfl rfl (fun w0 R=>?_)
 refine TC.seq (TC.nilA 0 (A:=fun _=>True) trivial (TC.region (xaf rfl (dA (TL.bld [.int .i64 0,.int .i64 0,.int .i64 0] [(.int _ _),(.int _ _),(.int _ _)] [_,_,_] zpM zsc ⟨rfl,rfl,rfl,trivial⟩ ⟨rfl,rfl⟩ rfl rfl (TL.alloc 1 (cs:=#[.int .i64 0,.int .i64 0,.int .i64 0]) zpM rfl rfl rfl (fun _=>trivial) (fun bk1=>(TL.stW 1 3 [_,_,_] rfl rfl rfl rfl rfl rfl zaa rfl rfl trivial (dA ?_)))))))))
 refine xL3 1 zaa rfl rfl (TL.call [0] [0,2] (zll (l:=l16) (a:=none) (dn:=0) (dc:=0) (Ad:=fun _=>True) (b:=0) (off:=0) (fd:=fun _=>0) zk4 (fun h=>absurd h (Nat.lt_irrefl 0)) (fun _ _ i hi=>absurd hi (Nat.not_lt_zero i)) (fun i hi=>absurd hi (Nat.not_lt_zero i)) (by decide)) ⟨rfl,rfl,trivial⟩ ⟨rfl,trivial⟩ zpZ rfl rfl rfl rfl ?_)
 rintro v Bs ⟨ab,mb,rfl,rfl⟩
 refine ⟨rfl,trivial,?_⟩
 refine xmu rfl (TL.ext (.pointer (some ⟨_,_,none⟩)) rfl rfl rfl rfl (xei rfl rfl (xap rfl (xai rfl (dB (xmi rfl (TL.neqF rfl rfl (by decide) rfl rfl (xmf rfl ?_))))))))
 refine xmp rfl (TL.nilP false rfl rfl zpN rfl rfl rfl (xpF rfl (dF rfl (xL3 1 zaa rfl rfl (TL.call [] [3] (zm5 (l:=l16) zk4) ⟨rfl,rfl,rfl,trivial⟩ trivial zpU rfl rfl rfl rfl ?_)))))
 rintro x Bs ⟨kb,rfl,rfl⟩
 refine ⟨rfl,trivial,?_⟩
 refine xap rfl (dB (xmp rfl (TL.nilP false rfl rfl zns rfl rfl rfl (TL.done (TQ.then (TC.condF rfl (TC.skip (TQ.then ?_))))))))
 refine sB (xai rfl (dK (TC.loopK (X:=Nat) [2,4] [0,1,2] (fun k=>[(5,.int .i64 ((k+1:Nat):Int))]) (fun k=>[(3,zal 168 157 189 kb l16 (ksN l16 s16 (za8 l16 0 1) k))]) (fun k=>k≤7) (fun k=>7 - k) (0) (Nat.zero_le _) ⟨rfl,trivial⟩ ⟨rfl,trivial⟩ (fun k hI=>(TC.sub (env':=[(5,_),(2,_),(4,_)]) (L':=[(3,_),(0,_),(1,_),(2,_)]) ⟨rfl,rfl,rfl,trivial⟩ ⟨rfl,rfl,rfl,rfl,trivial⟩ (sB (xmi rfl (TL.lss rfl rfl rfl rfl (fun q1=>?_) (fun q1=>?_)))))))))
 refine TL.done (TQ.then (TC.condT rfl (TC.skip (TQ.then (TC.seq (TC.block (sA (xmp rfl ?_))))))))
 refine xmp rfl (xmi rfl (TL.callD [3,2] [3,2] (zgV zk4) ⟨rfl,rfl,rfl,trivial⟩ ⟨rfl,rfl,trivial⟩ znu rfl rfl rfl rfl rfl trivial ?_))
 rw [show (CollectS.stp l16 _ (ksN l16 s16 (za8 l16 0 1) k) _).done=false from h1 k (by omega)]
 refine TL.done (TQ.then (TC.condF rfl (TC.skip (TQ.inBlock (TQ.then (TC.region (xmi rfl (TL.add (((k+2:Nat):Int)) rfl rfl (wrN (by omega)) rfl rfl ?_))))))))
 refine xai rfl (TL.done (TQ.roundK (k+1) ⟨by omega,by omega⟩ ⟨rfl,trivial⟩ ⟨rfl,trivial⟩ (kE2 rfl rfl trivial) (kL3 rfl rfl rfl trivial)))
 refine dE rfl (TC.seq ?_)
 obtain rfl:k=7:=by omega
 refine TC.region (xmp rfl (xmp rfl (TL.callD [3,2] [3,2] (zgV zk4) ⟨rfl,rfl,rfl,trivial⟩ ⟨rfl,rfl,trivial⟩ znu rfl rfl rfl rfl rfl trivial ?_)))
 rw [show (CollectS.stp l16 s16 (ksN l16 s16 (za8 l16 0 1) 7) 8).done=true from h2]
 refine xmt rfl (xmp rfl (TL.callD [3] [3] zgv ⟨rfl,trivial⟩ ⟨rfl,trivial⟩ zlc rfl rfl rfl rfl rfl trivial ?_))
 rw [show (CollectS.stp l16 s16 (ksN l16 s16 (za8 l16 0 1) 7) 8).done=true from h2]
 refine xpT rfl (xmt rfl (xmp rfl (TL.callD [3] [3] zhQ ⟨rfl,trivial⟩ ⟨rfl,trivial⟩ zpT rfl rfl rfl rfl rfl trivial ?_)))
 rw [show CollectS.joined (CollectS.stp l16 s16 (ksN l16 s16 (za8 l16 0 1) 7) 8)=false from h3]
 refine xnf rfl (xpT rfl (xmt rfl (xmp rfl (TL.callD [3] [3] zjo ⟨rfl,trivial⟩ ⟨rfl,trivial⟩ zpR rfl rfl rfl rfl rfl trivial ?_))))
 rw [show CollectS.point (CollectS.stp l16 s16 (ksN l16 s16 (za8 l16 0 1) 7) 8)=4 from h4]
 refine TL.eqlT rfl rfl rfl rfl rfl (xpT rfl (xmt rfl (xmp rfl (TL.callD [3] [3] zhP ⟨rfl,trivial⟩ ⟨rfl,trivial⟩ zpQ rfl rfl rfl rfl rfl trivial ?_))))
 rw [show CollectS.rounds (CollectS.stp l16 s16 (ksN l16 s16 (za8 l16 0 1) 7) 8)=2 from h5]
 refine TL.eqlT rfl rfl rfl rfl rfl (xpT rfl (xmt rfl (xmp rfl (TL.callD [3] [3] zm4 ⟨rfl,trivial⟩ ⟨rfl,trivial⟩ zsj rfl rfl rfl rfl rfl trivial ?_))))
 rw [show CollectS.steps (CollectS.stp l16 s16 (ksN l16 s16 (za8 l16 0 1) 7) 8)=8 from h6]
 refine TL.eqlT rfl rfl rfl rfl rfl (xpT rfl (xmt rfl (TL.callD [] [] (zm6 (h:=1) (by omega)) ⟨rfl,trivial⟩ trivial zpP rfl rfl rfl rfl rfl trivial (TL.eqlT rfl rfl rfl rfl rfl (xpT rfl (xmt rfl (TL.callD [] [] (zlL (by decide)) ⟨rfl,trivial⟩ trivial zpP rfl rfl rfl rfl rfl trivial (TL.eqlT rfl rfl rfl rfl rfl ?_))))))))
 refine xpT rfl (xat rfl (dR ?_))
 refine FQ.ret1 (v:=(.bool true)) (Bs:=[]) [] rfl rfl rfl trivial ?_
 exact ⟨rfl,rfl⟩
theorem zoC {l:Lay} (hl:l.Ok) {pb ab mb nb cbk cpb ub vb jb kb:Nat} {val:Value} {σ:Array UInt64} {k u v:Int} {now:Nat} {c:CollectS} {d:Array Bool} {par rt:Int→Int} (hnow:now≤1000000) (hcd:c.done=true):Go.Eng.Fn Tryz.prog 65 [.pointer (some ⟨nb,0,none⟩),.pointer (some ⟨cbk,0,none⟩),.pointer (some ⟨cpb,0,none⟩),.pointer (some ⟨ub,0,none⟩),.pointer (some ⟨vb,0,none⟩),.pointer (some ⟨jb,0,none⟩)] [pt nb (.cells #[.int .i64 ((now:Nat):Int)] 3),pt cbk (.cells #[.pointer (some ⟨kb,0,none⟩)] 113),pt cpb (.cells #[.pointer (some ⟨pb,0,none⟩)] 108),pt ub (.cells #[.int .i64 u] 3),pt vb (.cells #[.int .i64 v] 3),pt jb (.cells #[val] 54),zal 168 157 189 kb l (c),pt pb (.cells #[.int .i64 l.V,.int .i64 l.S,.int .i64 l.T,.pointer (some ⟨ab,0,none⟩),.int .i64 k] 117),zaj ab mb 140 71 (σ),ownA encB 1 4 val (d)] (fun x Bs=>x=.tuple #[]∧∃ val2,Bs=[pt nb (.cells #[.int .i64 (((now+1):Nat):Int)] 3),pt cbk (.cells #[.pointer (some ⟨kb,0,none⟩)] 113),pt cpb (.cells #[.pointer (some ⟨pb,0,none⟩)] 108),pt ub (.cells #[.int .i64 u] 3),pt vb (.cells #[.int .i64 v] 3),pt jb (.cells #[val2] 54),zal 168 157 189 kb l (c),pt pb (.cells #[.int .i64 l.V,.int .i64 l.S,.int .i64 l.T,.pointer (some ⟨ab,0,none⟩),.int .i64 k] 117),zaj ab mb 140 71 (σ),ownA encB 1 4 val2 (d)]):=by
 refine Fn.enter (Tryz.func65) rfl rfl (fun w0 R=>?_)
 refine sA (xli 0 zac rfl rfl (TL.add (((now+1:Nat):Int)) rfl rfl (wrN (by omega)) rfl rfl (TL.st 0 #[_] (.int _ _) rfl rfl rfl rfl rfl rfl zac rfl rfl trivial (dA (xlp 1 zd5 rfl rfl (TL.callD [6] [6] zgv ⟨rfl,trivial⟩ ⟨rfl,trivial⟩ zlc rfl rfl rfl rfl rfl trivial ?_))))))
 rw [hcd]
 refine xnt rfl (TL.done (TQ.then (TC.condF rfl (TC.skip ?_))))
 refine FQ.end0 (Bs:=[_,_,_,_,_,_,_,_,_,_]) [0,1,2,3,4,5,6,7,8,9] rfl rfl ⟨rfl,rfl,rfl,rfl,rfl,rfl,rfl,rfl,rfl,rfl,trivial⟩ ?_
 exact ⟨rfl,_,rfl⟩
theorem zoB {l:Lay} (hl:l.Ok) {pb ab mb nb cbk cpb ub vb jb kb:Nat} {val:Value} {σ:Array UInt64} {k u v:Int} {now:Nat} {c:CollectS} {d:Array Bool} {par rt:Int→Int} (hnow:now≤1000000) (hcd:c.done=false) (hS:SeenF l σ par rt) (hu:0≤u∧u<l.V) (hv:0≤v∧v<l.V) (hdz:d.size≤20000):Go.Eng.Fn Tryz.prog 65 [.pointer (some ⟨nb,0,none⟩),.pointer (some ⟨cbk,0,none⟩),.pointer (some ⟨cpb,0,none⟩),.pointer (some ⟨ub,0,none⟩),.pointer (some ⟨vb,0,none⟩),.pointer (some ⟨jb,0,none⟩)] [pt nb (.cells #[.int .i64 ((now:Nat):Int)] 3),pt cbk (.cells #[.pointer (some ⟨kb,0,none⟩)] 113),pt cpb (.cells #[.pointer (some ⟨pb,0,none⟩)] 108),pt ub (.cells #[.int .i64 u] 3),pt vb (.cells #[.int .i64 v] 3),pt jb (.cells #[val] 54),zal 168 157 189 kb l (c),pt pb (.cells #[.int .i64 l.V,.int .i64 l.S,.int .i64 l.T,.pointer (some ⟨ab,0,none⟩),.int .i64 k] 117),zaj ab mb 140 71 (σ),ownA encB 1 4 val (d)] (fun x Bs=>x=.tuple #[]∧∃ val2,Bs=[pt nb (.cells #[.int .i64 (((now+1):Nat):Int)] 3),pt cbk (.cells #[.pointer (some ⟨kb,0,none⟩)] 113),pt cpb (.cells #[.pointer (some ⟨pb,0,none⟩)] 108),pt ub (.cells #[.int .i64 u] 3),pt vb (.cells #[.int .i64 v] 3),pt jb (.cells #[val2] 54),zal 168 157 189 kb l (c.stp l σ ((now+1:Nat):Int)),pt pb (.cells #[.int .i64 l.V,.int .i64 l.S,.int .i64 l.T,.pointer (some ⟨ab,0,none⟩),.int .i64 k] 117),zaj ab mb 140 71 (σ),ownA encB 1 4 val2 (d++#[decide (rt (l.vertex 0 u)=rt (l.vertex 0 v))])]):=by
 refine Fn.enter (Tryz.func65) rfl rfl (fun w0 R=>?_)
 refine sA (xli 0 zac rfl rfl (TL.add (((now+1:Nat):Int)) rfl rfl (wrN (by omega)) rfl rfl (TL.st 0 #[_] (.int _ _) rfl rfl rfl rfl rfl rfl zac rfl rfl trivial (dA (xlp 1 zd5 rfl rfl (TL.callD [6] [6] zgv ⟨rfl,trivial⟩ ⟨rfl,trivial⟩ zlc rfl rfl rfl rfl rfl trivial ?_))))))
 rw [hcd]
 refine xnf rfl (dT rfl (xlp 2 zd6 rfl rfl (xli 3 zac rfl rfl (TL.callD [7,8] [7,8] (zja (h:=upH l par rt (l.vertex 0 u)) hl hS (hS.upH hl (zbi hl (σ:=σ) ⟨by omega,by omega⟩).2).2 (hS.upH hl (zbi hl (σ:=σ) ⟨by omega,by omega⟩).2).1) ⟨rfl,rfl,trivial⟩ ⟨rfl,rfl,trivial⟩ zpS rfl rfl rfl rfl rfl trivial (xmu rfl (xei rfl rfl (xei rfl rfl (xai rfl ?_))))))))
 refine xai rfl (dA (xlp 2 zd6 rfl rfl (xli 4 zac rfl rfl (TL.callD [7,8] [7,8] (zja (h:=upH l par rt (l.vertex 0 v)) hl hS (hS.upH hl (zbi hl (σ:=σ) ⟨by omega,by omega⟩).2).2 (hS.upH hl (zbi hl (σ:=σ) ⟨by omega,by omega⟩).2).1) ⟨rfl,rfl,trivial⟩ ⟨rfl,rfl,trivial⟩ zpS rfl rfl rfl rfl rfl trivial (xmu rfl (xei rfl rfl (xei rfl rfl (xai rfl ?_))))))))
 refine xai rfl (dA (xlv 5 zju rfl rfl (xmi rfl (xmi rfl (TL.eqlV rfl rfl rfl rfl (TL.bsN 10 [_] (encB (decide (rt (l.vertex 0 u)=rt (l.vertex 0 v)))) zcH zr3 ⟨rfl,trivial⟩ rfl (lit1 rfl) rfl rfl (fun bk10=>⟨trivial,?_⟩)))))))
 refine TL.appS 9 10 (d2:=#[decide (rt (l.vertex 0 u)=rt (l.vertex 0 v))]) rfl (rfl) rfl (fun _=>rfl) rfl rfl (row1 rfl) zpf (by decide) zhU (by simp; omega) rfl rfl (fun v11=>⟨trivial,?_⟩)
 refine TL.ownW 9 rfl (fun a9 g9 c9 hv9 _ _=>?_)
 cases hv9
 refine TL.st 5 #[_] _ rfl rfl rfl rfl rfl rfl zju rfl rfl trivial (TL.done (TQ.then (TC.draw [(0,true),(1,true),(2,true),(3,true),(4,true),(5,true),(6,false)] [0,1,2,7] fc_m (by kernel_rfl) (xlp 1 zd5 rfl rfl (xlp 2 zd6 rfl rfl (xN0 rfl (xf 3 zea rfl (xlp 7 zhT rfl rfl ?_))))))))
 refine xli 0 zac rfl rfl (TL.callD [6,8] [6,8] (zgV hl) ⟨rfl,rfl,rfl,trivial⟩ ⟨rfl,rfl,trivial⟩ znu rfl rfl rfl rfl rfl (kL4 rfl rfl rfl rfl trivial) (TL.done ?_))
 refine FQ.end0 (Bs:=[_,_,_,_,_,_,_,_,_,_]) [0,1,2,3,4,5,6,7,8,9] rfl rfl ⟨rfl,rfl,rfl,rfl,rfl,rfl,rfl,rfl,rfl,rfl,trivial⟩ ?_
 exact ⟨rfl,_,rfl⟩
theorem zgG {l:Lay} (hl:l.Ok) {pb ab mb nb cbk cpb ub vb jb kb:Nat} {σ:Array UInt64} {k u v:Int} {now:Nat} {c:CollectS} {d:Array Bool} {par rt:Int→Int} (hnow:now≤1000000) (hS:SeenF l σ par rt) (hu:0≤u∧u<l.V) (hv:0≤v∧v<l.V) (hdz:d.size≤20000):FnD Tryz.prog 65 [.pointer (some ⟨nb,0,none⟩),.pointer (some ⟨cbk,0,none⟩),.pointer (some ⟨cpb,0,none⟩),.pointer (some ⟨ub,0,none⟩),.pointer (some ⟨vb,0,none⟩),.pointer (some ⟨jb,0,none⟩)] [jbA 54 4 jb (d),pt nb (.cells #[.int .i64 ((now:Nat):Int)] 3),pt cbk (.cells #[.pointer (some ⟨kb,0,none⟩)] 113),pt cpb (.cells #[.pointer (some ⟨pb,0,none⟩)] 108),pt ub (.cells #[.int .i64 u] 3),pt vb (.cells #[.int .i64 v] 3),zal 168 157 189 kb l (c),pt pb (.cells #[.int .i64 l.V,.int .i64 l.S,.int .i64 l.T,.pointer (some ⟨ab,0,none⟩),.int .i64 k] 117),zaj ab mb 140 71 (σ)] (.tuple #[]) [jbA 54 4 jb (zeY c d (decide (rt (l.vertex 0 u)=rt (l.vertex 0 v)))),pt nb (.cells #[.int .i64 (((now+1):Nat):Int)] 3),pt cbk (.cells #[.pointer (some ⟨kb,0,none⟩)] 113),pt cpb (.cells #[.pointer (some ⟨pb,0,none⟩)] 108),pt ub (.cells #[.int .i64 u] 3),pt vb (.cells #[.int .i64 v] 3),zal 168 157 189 kb l (c.stp l σ ((now+1:Nat):Int)),pt pb (.cells #[.int .i64 l.V,.int .i64 l.S,.int .i64 l.T,.pointer (some ⟨ab,0,none⟩),.int .i64 k] 117),zaj ab mb 140 71 (σ)]:=by
 refine Fn.pack (X:=Value) fun val=>Fn.permI (As:=[pt nb (.cells #[.int .i64 ((now:Nat):Int)] 3),pt cbk (.cells #[.pointer (some ⟨kb,0,none⟩)] 113),pt cpb (.cells #[.pointer (some ⟨pb,0,none⟩)] 108),pt ub (.cells #[.int .i64 u] 3),pt vb (.cells #[.int .i64 v] 3),pt jb (.cells #[val] 54),zal 168 157 189 kb l (c),pt pb (.cells #[.int .i64 l.V,.int .i64 l.S,.int .i64 l.T,.pointer (some ⟨ab,0,none⟩),.int .i64 k] 117),zaj ab mb 140 71 (σ),ownA encB 1 4 val (d)]) [2,3,4,5,6,0,7,8,9,1] rfl ⟨rfl,rfl,rfl,rfl,rfl,rfl,rfl,rfl,rfl,rfl,trivial⟩ (Fn.permO ?_)
 have key:Go.Eng.Fn Tryz.prog 65 [.pointer (some ⟨nb,0,none⟩),.pointer (some ⟨cbk,0,none⟩),.pointer (some ⟨cpb,0,none⟩),.pointer (some ⟨ub,0,none⟩),.pointer (some ⟨vb,0,none⟩),.pointer (some ⟨jb,0,none⟩)] [pt nb (.cells #[.int .i64 ((now:Nat):Int)] 3),pt cbk (.cells #[.pointer (some ⟨kb,0,none⟩)] 113),pt cpb (.cells #[.pointer (some ⟨pb,0,none⟩)] 108),pt ub (.cells #[.int .i64 u] 3),pt vb (.cells #[.int .i64 v] 3),pt jb (.cells #[val] 54),zal 168 157 189 kb l (c),pt pb (.cells #[.int .i64 l.V,.int .i64 l.S,.int .i64 l.T,.pointer (some ⟨ab,0,none⟩),.int .i64 k] 117),zaj ab mb 140 71 (σ),ownA encB 1 4 val (d)] (fun x Bs=>x=.tuple #[]∧∃ val2,Bs=[pt nb (.cells #[.int .i64 (((now+1):Nat):Int)] 3),pt cbk (.cells #[.pointer (some ⟨kb,0,none⟩)] 113),pt cpb (.cells #[.pointer (some ⟨pb,0,none⟩)] 108),pt ub (.cells #[.int .i64 u] 3),pt vb (.cells #[.int .i64 v] 3),pt jb (.cells #[val2] 54),zal 168 157 189 kb l (c.stp l σ ((now+1:Nat):Int)),pt pb (.cells #[.int .i64 l.V,.int .i64 l.S,.int .i64 l.T,.pointer (some ⟨ab,0,none⟩),.int .i64 k] 117),zaj ab mb 140 71 (σ),ownA encB 1 4 val2 (zeY c d (decide (rt (l.vertex 0 u)=rt (l.vertex 0 v))))]):=by
  cases hcd:c.done
  ·exact Fn.mono (zoB hl hnow hcd hS hu hv hdz) fun x Bs ⟨h1,v2,h2⟩=>⟨h1,v2,by unfold zeY; rw [hcd]; exact h2⟩
  ·exact Fn.mono (zoC (par:=par) (rt:=rt) hl hnow hcd) fun x Bs ⟨h1,v2,h2⟩=>⟨h1,v2,by unfold zeY; rw [hcd,CollectS.stp_d hcd]; exact h2⟩
 refine Fn.mono key fun x Bs ⟨h1,v2,h2⟩=>⟨[5,9,0,1,2,3,4,6,7,8],[pt jb (.cells #[v2] 54),ownA encB 1 4 v2 (zeY c d (decide (rt (l.vertex 0 u)=rt (l.vertex 0 v)))),pt nb (.cells #[.int .i64 (((now+1):Nat):Int)] 3),pt cbk (.cells #[.pointer (some ⟨kb,0,none⟩)] 113),pt cpb (.cells #[.pointer (some ⟨pb,0,none⟩)] 108),pt ub (.cells #[.int .i64 u] 3),pt vb (.cells #[.int .i64 v] 3),zal 168 157 189 kb l (c.stp l σ ((now+1:Nat):Int)),pt pb (.cells #[.int .i64 l.V,.int .i64 l.S,.int .i64 l.T,.pointer (some ⟨ab,0,none⟩),.int .i64 k] 117),zaj ab mb 140 71 (σ)],rfl,by rw [h2]; exact ⟨rfl,rfl,rfl,rfl,rfl,rfl,rfl,rfl,rfl,rfl,trivial⟩,h1,v2,rfl⟩
theorem zmJ {V S T:Int} {da oa ua:Option Addr} {dn dc on oc un uc:Nat} {u v:Int} (hno:¬(okL V S T∧V≤8∧S≤12∧dn≤60∧on≤40∧un≤12)):FnD Tryz.prog 12 [.agg #[.int .i64 V,.int .i64 S,.int .i64 T,.slice da dn dc,.slice oa on oc,.slice ua un uc],.int .i64 u,.int .i64 v] [] (.bool true) []:=by
 refine Fn.enter (Tryz.func12) rfl rfl (fun w0 R=>?_)
 refine sA (xB 0 rfl (fun bk0=>(TL.box1 1 (.int _ _) rfl rfl rfl rfl (fun _=>trivial) (fun bk1=>(TL.box1 2 (.int _ _) rfl rfl rfl rfl (fun _=>trivial) (fun bk2=>(xaf rfl (dB (xL6 0 zhk rfl rfl (TL.callD [] [] zhI ⟨rfl,trivial⟩ trivial zpX rfl rfl rfl rfl rfl trivial ?_))))))))))
 rw [decide_eq_false hno]
 refine xnf rfl (xmt rfl (xo rfl (xo rfl (xpT rfl (xmt rfl (xo rfl (xo rfl (xo rfl ?_))))))))
 refine xo rfl (xo rfl (xpT rfl (xmt rfl (xo rfl (xo rfl (xpT rfl (xmt rfl (xo rfl ?_))))))))
 refine xo rfl (xo rfl (xo rfl (xo rfl (xpT rfl (dT rfl (TL.callD [] [] zda trivial trivial zh1 rfl rfl rfl rfl rfl trivial (xat rfl (dRR ?_))))))))
 refine FQ.ret1 (v:=(.bool true)) (Bs:=[]) [] rfl rfl rfl trivial ?_
 exact ⟨rfl,rfl⟩
end Go.Proofs.YtjnpjkfliochbaaGreat
