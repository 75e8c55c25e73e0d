import Derived.Test.YtjnpjkfliochbaaGreatConA
set_option linter.unusedVariables false
set_option linter.unusedSimpArgs false
set_option maxRecDepth 20000
namespace Go.Proofs.YtjnpjkfliochbaaGreat
open Go.Eng Go.Tm
theorem zoE {S:Type} [MemLike S] {mt:TypeId} {mv:Value} {A:S→Assn} (hM:MemI Tryz.prog mt mv A) {fS:FuncId} (hfS:zeI Tryz.prog mt "Store" fS=true) {l:Lay} (hl:l.Ok) {σ:S}:FnD Tryz.prog 93 [.iface mt mv,layV l] [A σ] (.tuple #[]) [A (zgk l σ)]:=by
 have hb:=zbn hl
 refine Fn.enter (Tryz.func93) rfl rfl (fun w0 R=>?_)
 refine sA (xB 1 rfl (fun bk1=>(dB (xf 1 zby rfl (xli 1 zac rfl rfl (xmi rfl (dK (TC.loopK (X:=Nat) [0,3,6] [1] (fun s=>[(7,.int .i64 ((s:Nat):Int))]) (fun s=>[(0,A (zdH l s σ))]) (fun s=>s≤l.S) (fun s=>l.S - s) (0) (Nat.zero_le _) ⟨rfl,trivial⟩ ⟨rfl,trivial⟩ (fun s hI=>(TC.sub (env':=[(7,_),(0,_),(3,_),(6,_)]) (L':=[(0,_),(1,_)]) ⟨rfl,rfl,rfl,rfl,trivial⟩ ⟨rfl,rfl,trivial⟩ ?_))))))))))
 refine sA (TL.lss rfl rfl rfl rfl (fun q1=>?_) (fun q1=>?_))
 refine dS (TC.condT rfl (TC.skip (TQ.then (TC.seq (TC.block (sA (xmi rfl (xai rfl ?_))))))))
 refine TL.done (TQ.then (TC.draw [(0,true),(1,true),(2,true),(4,true),(5,true),(6,true),(7,true),(8,true),(9,true),(3,false),(10,false)] [1] fc_m (by kernel_rfl) (xmc rfl (xL3 1 zaa rfl rfl (xmi rfl (xmi rfl (TL.add _ rfl rfl (wr64 (by omega)) rfl rfl (TL.conv _ rfl zfA zbh (zrB (by omega)) rfl rfl ?_))))))))
 refine TL.mf (xs:=[_]) (ys:=[]) [_] [] ⟨rfl,trivial⟩ trivial rfl rfl (TL.ncM hfS rfl rfl rfl (xmc rfl (TL.callD [] [] (zk0 hl) ⟨rfl,rfl,trivial⟩ trivial znT rfl rfl rfl rfl rfl (kL1 rfl trivial) (TL.mstore 0 hM rfl rfl rfl (by first | decide | omega) rfl rfl rfl (kL1 rfl trivial) (dI (TL.add (((s+1:Nat):Int)) rfl rfl (wrN (by omega)) rfl rfl (xmi rfl (TL.done ?_))))))))
 refine TQ.roundK (s+1) ⟨(by omega),(by omega)⟩ ⟨rfl,trivial⟩ ⟨rfl,trivial⟩ (kE3 rfl rfl rfl trivial) (kL1 rfl trivial)
 refine dS (TC.condF rfl (TC.exit (TQ.thenExit (TQ.thenExit (TQ.blockHere (TQ.then (sB (xf 1 zby rfl ?_))))))))
 refine xli 1 zac rfl rfl (TL.eql rfl rfl rfl rfl (fun q2=>?_) (fun q2=>?_))
 refine TL.done (TQ.then (TC.condT rfl (TC.seq (TC.draw [(0,true),(1,true),(3,true),(4,true),(5,true),(2,false),(6,false)] [1] fc_m (by kernel_rfl) (xmc rfl (xL3 1 zaa rfl rfl (TL.mf (xs:=[_]) (ys:=[]) [_] [] ⟨rfl,trivial⟩ trivial rfl rfl (TL.ncM hfS rfl rfl rfl ?_))))))))
 refine xmc rfl (TL.callD [] [] (ziC hl) ⟨rfl,trivial⟩ trivial ziP rfl rfl rfl rfl rfl (kL1 rfl trivial) (TL.mstore 0 hM rfl rfl rfl (by first | decide | omega) rfl rfl rfl (kL1 rfl trivial) (dRR ?_)))
 refine FQ.ret0 (Bs:=[A _]) [0] rfl rfl ⟨rfl,trivial⟩ ?_
 obtain rfl:s=l.S:=by omega
 have e0:l.S=0:=by omega
 exact ⟨rfl,by rw [zqf e0,e0,zdH]⟩
 refine TL.done (TQ.then (TC.condF rfl (TC.skip (TQ.then (TC.seq (TC.draw [(0,true),(1,true),(2,true),(3,true),(4,true),(6,true),(7,true),(8,true),(5,false),(9,false)] [1] fc_m (by kernel_rfl) (xmc rfl (xL3 1 zaa rfl rfl ?_))))))))
 refine xf 1 zby rfl (xli 1 zac rfl rfl (TL.sub _ rfl rfl (wr64 (by omega)) rfl rfl (TL.mf (xs:=[_]) (ys:=[]) [_] [] ⟨rfl,trivial⟩ trivial rfl rfl (TL.ncM hfS rfl rfl rfl (xmc rfl (TL.callD [] [] (zk0 hl) ⟨rfl,rfl,trivial⟩ trivial znT rfl rfl rfl rfl rfl (kL1 rfl trivial) (TL.mstore 0 hM rfl rfl rfl (by first | decide | omega) rfl rfl rfl (kL1 rfl trivial) (TL.done ?_))))))))
 refine TQ.then (TC.draw [(0,true),(1,true),(3,true),(4,true),(5,true),(2,false),(6,false)] [1] fc_m (by kernel_rfl) (xmc rfl (xL3 1 zaa rfl rfl (TL.mf (xs:=[_]) (ys:=[]) [_] [] ⟨rfl,trivial⟩ trivial rfl rfl (TL.ncM hfS rfl rfl rfl (xmc rfl (TL.callD [] [] (ziC hl) ⟨rfl,trivial⟩ trivial ziP rfl rfl rfl rfl rfl (kL1 rfl trivial) (TL.mstore 0 hM rfl rfl rfl (by first | decide | omega) rfl rfl rfl (kL1 rfl trivial) ?_))))))))
 refine TL.done ?_
 refine FQ.end0 (Bs:=[A _]) [0] rfl rfl ⟨rfl,trivial⟩ ?_
 obtain rfl:s=l.S:=by omega
 exact ⟨rfl,by rw [zqe (by omega)]⟩
theorem zgx {S:Type} [MemLike S] {mt:TypeId} {mv:Value} {A:S→Assn} (hM:MemI Tryz.prog mt mv A) {l:Lay} (hl:l.Ok) {p:Pen} {σ:S} {x y:Int} (hy:0≤y∧y<18446744073709551616)  : FnD Tryz.prog 94 [zbc l mt mv p,.int .i64 x,.int .u64 y] [A σ] (.tuple #[]) [A (zey l p σ x y)]:=by
 refine Fn.enter (Tryz.func94) rfl rfl (fun w0 R=>?_)
 refine sA (xB 1 rfl (fun bk1=>(dS (TC.draw [(0,true),(1,true),(2,true),(3,true),(4,true),(6,true),(7,true),(8,true),(5,false),(9,false)] [1] fc_m (by kernel_rfl) (xf 3 zbb rfl (xlc 1 zbN rfl rfl (xf 0 zaM rfl (xL3 1 zaa rfl rfl (xmi rfl ?_)))))))))
 refine xmi rfl (TL.ncI rfl rfl rfl (xmc rfl (TL.callD [] [] (zay hl) ⟨rfl,rfl,rfl,trivial⟩ trivial zaW rfl rfl rfl rfl rfl (kL1 rfl trivial) (TL.mstore 0 hM rfl rfl rfl (by first | exact hy | decide) rfl rfl rfl (kL1 rfl trivial) (dA (xL6 1 zad rfl rfl (xmi rfl (TL.callD [0] [0] (zfG hM hl) ⟨rfl,rfl,trivial⟩ ⟨rfl,trivial⟩ zhj rfl rfl rfl rfl rfl trivial ?_))))))))
 refine dS (TC.draw [(0,true),(1,true),(2,true),(3,true),(4,true),(5,true),(6,true),(7,false),(8,false)] [1] fc_m (by kernel_rfl) (xf 4 zhZ rfl (xL2 1 zar rfl rfl (xf 3 zbb rfl (xlc 1 zbN rfl rfl (xf 0 zaM rfl (xL3 1 zaa rfl rfl (xmi rfl ?_))))))))
 refine TL.callD [] [] (zay hl) ⟨rfl,rfl,rfl,trivial⟩ trivial zaW rfl rfl rfl rfl rfl (kL1 rfl trivial) (TL.callD [0] [0] (zb8 hM) ⟨rfl,rfl,rfl,trivial⟩ ⟨rfl,trivial⟩ zdT rfl rfl rfl rfl rfl (kL1 rfl trivial) (dA (xai rfl (dB (xf 0 zaM rfl (xL3 1 zaa rfl rfl (xmi rfl (TL.callD [] [] (zbj hl) ⟨rfl,rfl,trivial⟩ trivial zb1 rfl rfl rfl rfl rfl trivial ?_))))))))
 refine xmu rfl (TL.ext (.agg _) rfl rfl rfl rfl (TL.ext (.bool _) rfl rfl rfl rfl (TL.alloc 2 (cs:=#[.bool false,.int .i64 0,.int .i64 0,.int .i64 0,.int .i64 0]) zbw rfl rfl rfl (fun _=>trivial) (fun bk2=>(TL.stW 2 5 [_,_,_,_,_] rfl rfl rfl rfl rfl rfl zaQ rfl rfl trivial (xab rfl (dA (xf 0 zhV rfl (xlb 2 zbq rfl rfl ?_)))))))))
 refine TL.not _ _ rfl rfl rfl rfl (xmb rfl (TL.cases rfl (fun q1=>?_) (fun q1=>?_)))
 refine xf 1 zaS rfl (xli 2 zac rfl rfl (TL.eql rfl rfl rfl rfl (fun q2=>?_) (fun q2=>?_)))
 refine xpT rfl (TL.done (TQ.then (TC.condT rfl (TC.region (xai rfl (TL.done (TQ.then (TC.draw [(0,true),(1,true),(2,true),(3,true),(4,true),(6,true),(7,true),(8,true),(5,false),(9,false)] [1] fc_m (by kernel_rfl) ?_))))))))
 refine xf 3 zbb rfl (xlc 1 zbN rfl rfl (xf 0 zaM rfl (xL3 1 zaa rfl rfl (xmi rfl (xmi rfl (TL.ncI rfl rfl rfl (xmc rfl (TL.callD [] [] (zay hl) ⟨rfl,rfl,rfl,trivial⟩ trivial zaW rfl rfl rfl rfl rfl (kL1 rfl trivial) ?_))))))))
 refine TL.mstore 0 hM rfl rfl rfl (by first | exact hy | decide) rfl rfl rfl (kL1 rfl trivial) (TL.done ?_)
 refine FQ.end0 (Bs:=[A _]) [0] rfl rfl ⟨rfl,trivial⟩ ?_
 exact ⟨rfl,by unfold zey zfS; rw [if_pos ⟨by simpa using q1,q2⟩]⟩
 refine xpG rfl (TL.done (TQ.then (TC.condF rfl (TC.skip (TQ.then (TC.draw [(0,true),(1,true),(2,true),(3,true),(4,true),(6,true),(7,true),(8,true),(5,false),(9,false)] [1] fc_m (by kernel_rfl) (xf 3 zbb rfl (xlc 1 zbN rfl rfl ?_))))))))
 refine xf 0 zaM rfl (xL3 1 zaa rfl rfl (xmi rfl (xmi rfl (TL.ncI rfl rfl rfl (xmc rfl (TL.callD [] [] (zay hl) ⟨rfl,rfl,rfl,trivial⟩ trivial zaW rfl rfl rfl rfl rfl (kL1 rfl trivial) (TL.mstore 0 hM rfl rfl rfl (by first | exact hy | decide) rfl rfl rfl (kL1 rfl trivial) (TL.done ?_))))))))
 refine FQ.end0 (Bs:=[A _]) [0] rfl rfl ⟨rfl,trivial⟩ ?_
 exact ⟨rfl,by unfold zey zfS; rw [if_neg (fun h=>q2 h.2)]⟩
 refine xo rfl (xo rfl (xo rfl (xpF rfl (TL.done (TQ.then (TC.condF rfl (TC.skip (TQ.then ?_))))))))
 refine TC.draw [(0,true),(1,true),(2,true),(3,true),(4,true),(6,true),(7,true),(8,true),(5,false),(9,false)] [1] fc_m (by kernel_rfl) (xf 3 zbb rfl (xlc 1 zbN rfl rfl (xf 0 zaM rfl (xL3 1 zaa rfl rfl (xmi rfl (xmi rfl (TL.ncI rfl rfl rfl (xmc rfl ?_))))))))
 refine TL.callD [] [] (zay hl) ⟨rfl,rfl,rfl,trivial⟩ trivial zaW rfl rfl rfl rfl rfl (kL1 rfl trivial) (TL.mstore 0 hM rfl rfl rfl (by first | exact hy | decide) rfl rfl rfl (kL1 rfl trivial) (TL.done ?_))
 refine FQ.end0 (Bs:=[A _]) [0] rfl rfl ⟨rfl,trivial⟩ ?_
 exact ⟨rfl,by unfold zey zfS; rw [if_neg (fun h=>by rw [h.1] at q1; cases q1)]⟩
theorem zll {l:Lay} (hl:l.Ok) {a:Option Addr} {b off dn dc:Nat} {Ad:Assn} {fd:Nat→Int} (ha:0<dn→a=some ⟨b,off,none⟩) (hAd:zbB Ad encU 1 b off dn fd) (hfd:∀ i,i<dn→0≤fd i∧fd i<18446744073709551616) (hdn:dn≤256)  : Go.Eng.Fn Tryz.prog 35 [layV l,.slice a dn dc] [Ad] (fun v Bs=>∃ ab mb,v=.tuple #[.pointer (some ⟨ab,0,none⟩),.int .i64 0]∧Bs=[Ad,zaj ab mb 140 71 (zhq l dn fd (Array.replicate l.cells.toNat 0))]):=by
 obtain ⟨N,hN⟩:∃ N:Nat,l.cells=(N:Int):=⟨l.cells.toNat,by have:=ze9 hl; have:=za0 hl; have:=zcv hl; have:=zcc hl; omega⟩
 have hN2:l.cells.toNat=N:=by omega
 have hcb:=ze9 hl
 have hnb:=za0 hl
 refine Fn.enter (Tryz.func35) rfl rfl (fun w0 R=>?_)
 refine sA (xB 1 rfl (fun bk1=>(TL.asg (.pointer none) rfl rfl rfl (xai rfl (dS (TC.block (sA (xL3 1 zaa rfl rfl (TL.callD [] [] (zmW hl) ⟨rfl,trivial⟩ trivial zsh rfl rfl rfl rfl rfl trivial ?_)))))))))
 refine xnt rfl (xaf rfl (TL.done (TQ.then (TC.condF rfl (sA (xms rfl (xz za6 rfl (TL.gtrF rfl rfl (by omega) rfl rfl ?_))))))))
 refine xaf rfl (TL.done (TQ.then (TC.condF rfl (TC.skip (TQ.inBlock (TQ.then (sA (xL3 1 zaa rfl rfl ?_))))))))
 refine TL.callD [] [] (zph hl) ⟨rfl,trivial⟩ trivial zso rfl rfl rfl rfl rfl trivial ?_
 rw [hN]
 refine TL.call [] [2] (zrw (by omega)) ⟨rfl,trivial⟩ trivial zsg rfl rfl rfl rfl ?_
 rintro v Bs ⟨ab,mb,rfl,rfl⟩
 refine ⟨rfl,trivial,?_⟩
 rw [←hN2]
 refine TL.conseq 2 (B:=zaj ab mb 140 71 (Array.replicate l.cells.toNat 0)) rfl (fun h hh=>zpl hh) trivial (xmu rfl (TL.ext (.pointer (some ⟨_,_,none⟩)) rfl rfl rfl rfl (xei rfl rfl (xap rfl (xai rfl (dB (xmi rfl (TL.neqF rfl rfl (by omega) rfl rfl ?_))))))))
 refine TL.done (TQ.then (TC.condF rfl (TC.skip (TQ.then (TC.seq (TC.draw [(0,true),(3,true),(1,false),(2,true),(4,false)] [1] fc_m (by kernel_rfl) (xmp rfl (xL3 1 zaa rfl rfl ?_))))))))
 refine TL.callD [] [] zbT ⟨rfl,trivial⟩ trivial zdw rfl rfl rfl rfl rfl (kL1 rfl trivial) (TL.miN (v:=(.agg _)) rfl zaI rfl rfl (TL.callD [2] [2] (zoE zam (zaH) hl) ⟨rfl,rfl,trivial⟩ ⟨rfl,trivial⟩ zsf rfl rfl rfl rfl rfl (kL1 rfl trivial) (dS (TC.drawT (.br [(0,true),(1,true),(4,true)] 2 6 (.fin [(3,true),(5,true),(6,false),(7,false)]) (.fin [(2,false),(3,true),(5,true),(7,false)])) [1] fc_m (by kernel_rfl) (TT.br (xL3 1 zaa rfl rfl (xmp rfl (TL.bld [.int .i64 0,.int .i64 0] [(.int _ _)] [_,_] zdR znr ⟨rfl,trivial⟩ ⟨rfl,rfl⟩ rfl rfl (TL.both ?_ ?_)))))))))
 refine TL.callD [] [] zbT ⟨rfl,trivial⟩ trivial zdw rfl rfl rfl rfl rfl (kL1 rfl trivial) (TL.tree (TT.fin (TL.miN (v:=(.agg _)) rfl zaI rfl rfl (TL.bld [.int .i64 0,.int .i64 0,.int .i64 0,.nilIface,.int .i64 0,.int .i64 0] [(.agg _),(.iface _ _),(.agg _)] [_,_,_,_,_,_] zjt znq ⟨rfl,rfl,rfl,trivial⟩ ⟨rfl,rfl⟩ rfl rfl (TL.alloc 3 (cs:=#[.int .i64 0,.int .i64 0,.int .i64 0,.nilIface,.int .i64 0,.int .i64 0]) zjt rfl rfl rfl (fun _=>(kL1 rfl trivial)) (fun bk3=>(TL.stW 3 6 [_,_,_,_,_,_] rfl rfl rfl rfl rfl rfl zad rfl rfl (kL1 rfl trivial) (dB (xai rfl (dK ?_))))))))))
 refine TC.loopK (X:=Nat) [1,2,4,5,6,8] [0,1,3] (fun x=>[(9,.int .i64 ((x+1:Nat):Int))]) (fun x=>[(2,zaj ab mb 140 71 (zcY l dn fd x (zgk l (Array.replicate l.cells.toNat 0))))]) (fun x=>(x:Int)≤l.nodes) (fun x=>l.nodes.toNat - x) (0) (by omega) ⟨rfl,trivial⟩ ⟨rfl,trivial⟩ (fun x hI=>(TC.sub (env':=[(9,_),(1,_),(2,_),(4,_),(5,_),(6,_),(8,_)]) (L':=[(2,_),(0,_),(1,_),(3,_)]) ⟨rfl,rfl,rfl,rfl,rfl,rfl,rfl,trivial⟩ ⟨rfl,rfl,rfl,rfl,trivial⟩ (sB (xmi rfl (xL3 1 zaa rfl rfl (TL.callD [] [] (zaV hl) ⟨rfl,trivial⟩ trivial zbE rfl rfl rfl rfl rfl trivial (TL.leq rfl rfl rfl rfl (fun q1=>?_) (fun q1=>?_))))))))
 refine TL.done (TQ.then (TC.condT rfl (TC.skip (TQ.then (TC.seq (TC.block (sA (xai rfl ?_))))))))
 refine dB (xms rfl (xz za6 rfl (TL.gtr rfl rfl rfl rfl (fun q2=>?_) (fun q2=>?_))))
 refine TL.done (TQ.then (TC.condT rfl (TC.region (xms rfl (xmi rfl (xms rfl (xz za6 rfl (TL.rem ((((x+1) % dn:Nat):Int)) rfl rfl (by omega) (by rw [Int.tmod_eq_emod_of_nonneg (by omega)]; exact (Int.natCast_emod (x+1) dn).symm) rfl rfl ?_))))))))
 refine TL.iaO rfl ha rfl za6 (Nat.mod_lt _ (by omega)) rfl rfl (TL.ldRS 0 (.int _ _) rfl rfl hAd (Nat.mod_lt _ (by omega)) (rfl) zk6 rfl rfl (xai rfl (dG (xL6 3 zad rfl rfl (xmi rfl (xmi rfl (TL.callD [2] [2] (zgx (p:=P1) zam hl (by first | exact hfd _ (Nat.mod_lt _ (by omega)) | decide)) ⟨rfl,rfl,rfl,trivial⟩ ⟨rfl,trivial⟩ zk9 rfl rfl rfl rfl rfl trivial (dI ?_))))))))
 refine xmi rfl (TL.add (((x+2:Nat):Int)) rfl rfl (wrN (by omega)) rfl rfl (xai rfl (TL.done (TQ.roundK (x+1) ⟨(by omega),(by omega)⟩ ⟨rfl,trivial⟩ ⟨congrArg (fun z=>some (zaj ab mb 140 71 (z))) (zh4 (by omega)),trivial⟩ (kE6 rfl rfl rfl rfl rfl rfl trivial) (kL3 rfl rfl rfl trivial)))))
 refine TL.done (TQ.then (TC.condF rfl (TC.skip (TQ.then (TC.region (xL6 3 zad rfl rfl (xmi rfl (xmi rfl ?_))))))))
 refine TL.callD [2] [2] (zgx (p:=P1) zam hl (by first | exact hfd _ (Nat.mod_lt _ (by omega)) | decide)) ⟨rfl,rfl,rfl,trivial⟩ ⟨rfl,trivial⟩ zk9 rfl rfl rfl rfl rfl trivial (dI (xmi rfl (TL.add (((x+2:Nat):Int)) rfl rfl (wrN (by omega)) rfl rfl (xai rfl (TL.done (TQ.roundK (x+1) ⟨(by omega),(by omega)⟩ ⟨rfl,trivial⟩ ⟨congrArg (fun z=>some (zaj ab mb 140 71 (z))) (zho (by omega)),trivial⟩ (kE6 rfl rfl rfl rfl rfl rfl trivial) (kL3 rfl rfl rfl trivial)))))))
 refine dE rfl (sA (xmp rfl (xap rfl (xai rfl (dR ?_)))))
 refine FQ.ret2 (v:=(.pointer (some ⟨_,_,none⟩))) (x:=(.int _ _)) (Bs:=[Ad,_]) [0,2] rfl rfl rfl rfl ⟨rfl,rfl,trivial⟩ ?_
 obtain rfl:x=l.nodes.toNat:=by omega
 exact ⟨_,_,rfl,rfl⟩
 refine TL.alloc 4 (cs:=#[.int .i64 0,.int .i64 0,.int .i64 0,.nilIface,.int .i64 0,.int .i64 0]) zjt rfl rfl rfl (fun _=>(kL1 rfl trivial)) (fun bk4=>(TL.tree (TT.fin (TL.callD [] [] zbT ⟨rfl,trivial⟩ trivial zdw rfl rfl rfl rfl rfl (kL1 rfl trivial) (TL.miN (v:=(.agg _)) rfl zaI rfl rfl (TL.bld [.int .i64 0,.int .i64 0,.int .i64 0,.nilIface,.int .i64 0,.int .i64 0] [(.agg _),(.iface _ _),(.agg _)] [_,_,_,_,_,_] zjt znq ⟨rfl,rfl,rfl,trivial⟩ ⟨rfl,rfl⟩ rfl rfl (TL.stW 4 6 [_,_,_,_,_,_] rfl rfl rfl rfl rfl rfl zad rfl rfl (kL1 rfl trivial) (dB (xai rfl (dK ?_))))))))))
 refine TC.loopK (X:=Nat) [1,2,4,5,6,8] [0,1,4] (fun x=>[(9,.int .i64 ((x+1:Nat):Int))]) (fun x=>[(2,zaj ab mb 140 71 (zcY l dn fd x (zgk l (Array.replicate l.cells.toNat 0))))]) (fun x=>(x:Int)≤l.nodes) (fun x=>l.nodes.toNat - x) (0) (by omega) ⟨rfl,trivial⟩ ⟨rfl,trivial⟩ (fun x hI=>(TC.sub (env':=[(9,_),(1,_),(2,_),(4,_),(5,_),(6,_),(8,_)]) (L':=[(2,_),(0,_),(1,_),(4,_)]) ⟨rfl,rfl,rfl,rfl,rfl,rfl,rfl,trivial⟩ ⟨rfl,rfl,rfl,rfl,trivial⟩ (sB (xmi rfl (xL3 1 zaa rfl rfl (TL.callD [] [] (zaV hl) ⟨rfl,trivial⟩ trivial zbE rfl rfl rfl rfl rfl trivial (TL.leq rfl rfl rfl rfl (fun q1=>?_) (fun q1=>?_))))))))
 refine TL.done (TQ.then (TC.condT rfl (TC.skip (TQ.then (TC.seq (TC.block (sA (xai rfl ?_))))))))
 refine dB (xms rfl (xz za6 rfl (TL.gtr rfl rfl rfl rfl (fun q2=>?_) (fun q2=>?_))))
 refine TL.done (TQ.then (TC.condT rfl (TC.region (xms rfl (xmi rfl (xms rfl (xz za6 rfl (TL.rem ((((x+1) % dn:Nat):Int)) rfl rfl (by omega) (by rw [Int.tmod_eq_emod_of_nonneg (by omega)]; exact (Int.natCast_emod (x+1) dn).symm) rfl rfl ?_))))))))
 refine TL.iaO rfl ha rfl za6 (Nat.mod_lt _ (by omega)) rfl rfl (TL.ldRS 0 (.int _ _) rfl rfl hAd (Nat.mod_lt _ (by omega)) (rfl) zk6 rfl rfl (xai rfl (dG (xL6 4 zad rfl rfl (xmi rfl (xmi rfl (TL.callD [2] [2] (zgx (p:=P1) zam hl (by first | exact hfd _ (Nat.mod_lt _ (by omega)) | decide)) ⟨rfl,rfl,rfl,trivial⟩ ⟨rfl,trivial⟩ zk9 rfl rfl rfl rfl rfl trivial (dI ?_))))))))
 refine xmi rfl (TL.add (((x+2:Nat):Int)) rfl rfl (wrN (by omega)) rfl rfl (xai rfl (TL.done (TQ.roundK (x+1) ⟨(by omega),(by omega)⟩ ⟨rfl,trivial⟩ ⟨congrArg (fun z=>some (zaj ab mb 140 71 (z))) (zh4 (by omega)),trivial⟩ (kE6 rfl rfl rfl rfl rfl rfl trivial) (kL3 rfl rfl rfl trivial)))))
 refine TL.done (TQ.then (TC.condF rfl (TC.skip (TQ.then (TC.region (xL6 4 zad rfl rfl (xmi rfl (xmi rfl ?_))))))))
 refine TL.callD [2] [2] (zgx (p:=P1) zam hl (by first | exact hfd _ (Nat.mod_lt _ (by omega)) | decide)) ⟨rfl,rfl,rfl,trivial⟩ ⟨rfl,trivial⟩ zk9 rfl rfl rfl rfl rfl trivial (dI (xmi rfl (TL.add (((x+2:Nat):Int)) rfl rfl (wrN (by omega)) rfl rfl (xai rfl (TL.done (TQ.roundK (x+1) ⟨(by omega),(by omega)⟩ ⟨rfl,trivial⟩ ⟨congrArg (fun z=>some (zaj ab mb 140 71 (z))) (zho (by omega)),trivial⟩ (kE6 rfl rfl rfl rfl rfl rfl trivial) (kL3 rfl rfl rfl trivial)))))))
 refine dE rfl (sA (xmp rfl (xap rfl (xai rfl (dR ?_)))))
 refine FQ.ret2 (v:=(.pointer (some ⟨_,_,none⟩))) (x:=(.int _ _)) (Bs:=[Ad,_]) [0,2] rfl rfl rfl rfl ⟨rfl,rfl,trivial⟩ ?_
 obtain rfl:x=l.nodes.toNat:=by omega
 exact ⟨_,_,rfl,rfl⟩
theorem ze8 {l:Lay} (hl:l.Ok) {v:Int}:Go.Eng.Fn Tryz.prog 39 [layV l,.int .i64 v] [] (fun x Bs=>∃ cb,x=.pointer (some ⟨cb,0,none⟩)∧Bs=[zaX 157 189 cb l (za4 l v)]):=by
 refine Fn.enter (Tryz.func39) rfl rfl (fun w0 R=>?_)
 refine sA (xB 0 rfl (fun bk0=>(TL.asg (.pointer none) rfl rfl rfl (dA (xL3 0 zaa rfl rfl (xmi rfl (TL.callD [] [] (zcT hl) ⟨rfl,rfl,rfl,trivial⟩ trivial zgg rfl rfl rfl rfl rfl trivial (xai rfl (dS ?_)))))))))
 refine TC.draw [(0,true),(1,true),(2,true),(3,true),(4,true),(5,false),(6,false),(7,true),(8,false),(9,true)] [0] fc_m (by kernel_rfl) (xL3 0 zaa rfl rfl (xmi rfl (xL3 0 zaa rfl rfl (xL3 0 zaa rfl rfl (xmi rfl (TL.callD [] [] (zay hl) ⟨rfl,rfl,rfl,trivial⟩ trivial zaW rfl rfl rfl rfl rfl (kL1 rfl trivial) (TL.call [] [1] zeB ⟨rfl,rfl,trivial⟩ trivial zk8 rfl rfl rfl rfl ?_)))))))
 rintro v Bs ⟨lb,rfl,rfl⟩
 refine ⟨rfl,(kL1 rfl trivial),?_⟩
 refine TL.bld [.int .i64 0,.int .i64 0,.int .i64 0,.int .i64 0,.pointer none,.bool false,.bool false,.int .i64 0,.int .i64 0] [(.agg _),(.int _ _),(.pointer (some ⟨_,_,none⟩))] [_,_,_,_,_,_,_,_,_] zqN zqX ⟨rfl,rfl,rfl,trivial⟩ ⟨rfl,rfl⟩ rfl rfl (TL.boxA 2 rfl rfl rfl (fun _=>(kL1 rfl trivial)) (fun bk2=>(xap rfl (dR (TQ.close 2 1 (zaX 157 189 _ l (za4 l v)) (by decide) rfl rfl (fun _ _ _ s1 s2 hd h1 h2=>zaD s1 s2 hd h1 h2) ?_)))))
 refine FQ.ret1 (v:=(.pointer (some ⟨_,_,none⟩))) (Bs:=[_]) [2] rfl rfl rfl ⟨rfl,trivial⟩ ?_
 exact ⟨_,rfl,rfl⟩
theorem ze6 {l:Lay} {cb:Nat} {c:ClimbS}:FnD Tryz.prog 50 [.pointer (some ⟨cb,0,none⟩)] [zaX 157 189 cb l (c)] (.int .i64 c.version) [zaX 157 189 cb l (c)]:=by
 refine Fn.enter (Tryz.func50) rfl rfl (fun w0 R=>?_)
 refine sA (xai rfl (dS (TC.openE 0 rfl (fun lb=>(TC.openS 0 1 rfl (by decide) (TC.region (xmp rfl (xN0 rfl (xf 7 zg4 rfl ?_)))))))))
 refine xli 0 zac rfl rfl (xai rfl (dR (TQ.close 0 1 (zaX 157 189 cb l (c)) (by decide) rfl rfl (fun _ _ _ s1 s2 hd h1 h2=>zaD s1 s2 hd h1 h2) ?_)))
 refine FQ.ret1 (v:=(.int _ _)) (Bs:=[_]) [0] rfl rfl rfl ⟨rfl,trivial⟩ ?_
 exact ⟨rfl,rfl⟩
theorem zlh {l:Lay} {cb:Nat} {c:ClimbS}:FnD Tryz.prog 41 [.pointer (some ⟨cb,0,none⟩)] [zaX 157 189 cb l (c)] (.int .i64 c.root) [zaX 157 189 cb l (c)]:=by
 refine Fn.enter (Tryz.func41) rfl rfl (fun w0 R=>?_)
 refine sA (xai rfl (dS (TC.seq (TC.openE 0 rfl (fun lb=>(TC.openS 0 1 rfl (by decide) (TC.region (xmp rfl (xN0 rfl ?_)))))))))
 refine xf 6 zck rfl (xlb 0 zbq rfl rfl (TL.not _ _ rfl rfl rfl rfl (TL.done (TQ.then (TC.cond rfl (fun q1=>?_) (fun q1=>?_))))))
 refine sA (xai rfl (dRR (TQ.close 0 1 (zaX 157 189 cb l (c)) (by decide) rfl rfl (fun _ _ _ s1 s2 hd h1 h2=>zaD s1 s2 hd h1 h2) ?_)))
 refine FQ.ret1 (v:=(.int _ _)) (Bs:=[_]) [0] rfl rfl rfl ⟨rfl,trivial⟩ ?_
 have q:c.done=false:=by simpa using q1
 exact ⟨iE (by unfold ClimbS.root; rw [q]; rfl),rfl⟩
 refine TC.skip (TQ.then (sA (xmp rfl (xN0 rfl (xf 3 zd8 rfl (xli 0 zac rfl rfl (xai rfl (dR ?_))))))))
 refine TQ.close 0 1 (zaX 157 189 cb l (c)) (by decide) rfl rfl (fun _ _ _ s1 s2 hd h1 h2=>zaD s1 s2 hd h1 h2) ?_
 refine FQ.ret1 (v:=(.int _ _)) (Bs:=[_]) [0] rfl rfl rfl ⟨rfl,trivial⟩ ?_
 have q:c.done=true:=by simpa using q1
 exact ⟨iE (by unfold ClimbS.root; rw [q]; rfl),rfl⟩
theorem zpg {l:Lay} (hl:l.Ok) {cb ab mb:Nat} {c:ClimbS} {σ:Array UInt64} {n:Cnt}:FnD Tryz.prog 40 [.pointer (some ⟨cb,0,none⟩),.pointer (some ⟨ab,0,none⟩)] [zaX 157 189 cb l (c),arenaC ab mb 140 71 (σ) (n)] (.bool (c.stp l σ).done) [zaX 157 189 cb l (c.stp l σ),arenaC ab mb 140 71 (σ) (c.cnt l σ n)]:=by
 refine Fn.enter (Tryz.func40) rfl rfl (fun w0 R=>?_)
 refine sA (xaf rfl (dS (TC.seq (TC.openE 0 rfl (fun lb=>(TC.openS 0 2 rfl (by decide) (TC.region (xmp rfl (xN0 rfl ?_)))))))))
 refine xf 6 zck rfl (xlb 0 zbq rfl rfl (TL.done (TQ.then (TC.cond rfl (fun q1=>?_) (fun q1=>?_)))))
 refine sA (xat rfl (dRR ?_))
 first | refine TQ.close 0 2 (zaX 157 189 cb l (⟨c.node,c.look.step l σ,c.top,true,(c.look.step l σ).value,IntKind.i64.wrap (c.step+1)⟩)) (by decide) rfl rfl (fun _ _ _ s1 s2 hd h1 h2=>zaD s1 s2 hd h1 h2) ?_ | refine TQ.close 0 2 (zaX 157 189 cb l (⟨c.node,zdn (l.field c.node 1),true,c.done,c.version,IntKind.i64.wrap (c.step+1)⟩)) (by decide) rfl rfl (fun _ _ _ s1 s2 hd h1 h2=>zaD s1 s2 hd h1 h2) ?_ | refine TQ.close 0 2 (zaX 157 189 cb l (⟨(c.look.step l σ).value,zdn (l.field (c.look.step l σ).value 2),c.top,c.done,c.version,IntKind.i64.wrap (c.step+1)⟩)) (by decide) rfl rfl (fun _ _ _ s1 s2 hd h1 h2=>zaD s1 s2 hd h1 h2) ?_ | refine TQ.close 0 2 (zaX 157 189 cb l (⟨c.node,c.look.step l σ,c.top,c.done,c.version,IntKind.i64.wrap (c.step+1)⟩)) (by decide) rfl rfl (fun _ _ _ s1 s2 hd h1 h2=>zaD s1 s2 hd h1 h2) ?_ | refine TQ.close 0 2 (zaX 157 189 cb l (c)) (by decide) rfl rfl (fun _ _ _ s1 s2 hd h1 h2=>zaD s1 s2 hd h1 h2) ?_
 refine FQ.ret1 (v:=(.bool true)) (Bs:=[_,_]) [0,1] rfl rfl rfl ⟨rfl,rfl,trivial⟩ ?_
 exact ⟨by rw [ClimbS.stp_d q1,q1],by rw [ClimbS.stp_d q1,ClimbS.cnt_d q1]⟩
 refine TC.skip (TQ.then (sA (xmp rfl (xN0 rfl (xf 8 zg3 rfl (xli 0 zac rfl rfl (TL.add _ rfl rfl (rfl) rfl rfl (xN0 rfl ?_))))))))
 refine xf 8 zg3 rfl (TL.st 0 #[_,_,_,_,_,_,_,_,_] (.int _ _) rfl rfl rfl rfl rfl rfl zac rfl rfl trivial (dB (xmp rfl (xN0 rfl (xf 4 zdk rfl (xlp 0 zg0 rfl rfl (xmp rfl (TL.callD [2,1] [2,1] (zm0 hl) ⟨rfl,rfl,trivial⟩ ⟨rfl,rfl,trivial⟩ zse rfl rfl rfl rfl rfl trivial ?_))))))))
 refine TL.cases rfl (fun q2=>?_) (fun q2=>?_)
 refine xnt rfl (dF rfl (xmp rfl (xN0 rfl (xf 4 zdk rfl (xlp 0 zg0 rfl rfl (TL.callD [2] [2] zlK ⟨rfl,trivial⟩ ⟨rfl,trivial⟩ zsd rfl rfl rfl rfl rfl trivial (xai rfl (dS ?_))))))))
 refine TC.block (sA (xmp rfl (xN0 rfl (xf 5 ze2 rfl (xlb 0 zbq rfl rfl (xab rfl (TL.done (TQ.then ?_))))))))
 refine TC.cond rfl (fun q3=>?_) (fun q3=>?_)
 refine TC.region (xmp rfl (xmp rfl (xmi rfl (xN0 rfl (xf 7 zg4 rfl (TL.st 0 #[_,_,_,_,_,_,_,_,_] (.int _ _) rfl rfl rfl rfl rfl rfl zac rfl rfl trivial (xN0 rfl (xf 6 zck rfl ?_))))))))
 refine TL.st 0 #[_,_,_,_,_,_,_,_,_] (.bool true) rfl rfl rfl rfl rfl rfl zbq rfl rfl trivial (TL.done (TQ.inBlock (TQ.then (sA (xmp rfl (xN0 rfl (xf 6 zck rfl (xlt 0 zbq rfl rfl ?_))))))))
 refine xat rfl (dR ?_)
 first | refine TQ.close 0 2 (zaX 157 189 cb l (⟨c.node,c.look.step l σ,c.top,true,(c.look.step l σ).value,IntKind.i64.wrap (c.step+1)⟩)) (by decide) rfl rfl (fun _ _ _ s1 s2 hd h1 h2=>zaD s1 s2 hd h1 h2) ?_ | refine TQ.close 0 2 (zaX 157 189 cb l (⟨c.node,zdn (l.field c.node 1),true,c.done,c.version,IntKind.i64.wrap (c.step+1)⟩)) (by decide) rfl rfl (fun _ _ _ s1 s2 hd h1 h2=>zaD s1 s2 hd h1 h2) ?_ | refine TQ.close 0 2 (zaX 157 189 cb l (⟨(c.look.step l σ).value,zdn (l.field (c.look.step l σ).value 2),c.top,c.done,c.version,IntKind.i64.wrap (c.step+1)⟩)) (by decide) rfl rfl (fun _ _ _ s1 s2 hd h1 h2=>zaD s1 s2 hd h1 h2) ?_ | refine TQ.close 0 2 (zaX 157 189 cb l (⟨c.node,c.look.step l σ,c.top,c.done,c.version,IntKind.i64.wrap (c.step+1)⟩)) (by decide) rfl rfl (fun _ _ _ s1 s2 hd h1 h2=>zaD s1 s2 hd h1 h2) ?_ | refine TQ.close 0 2 (zaX 157 189 cb l (c)) (by decide) rfl rfl (fun _ _ _ s1 s2 hd h1 h2=>zaD s1 s2 hd h1 h2) ?_
 refine FQ.ret1 (v:=(.bool true)) (Bs:=[_,_]) [0,1] rfl rfl rfl ⟨rfl,rfl,trivial⟩ ?_
 have d1:c.done=false:=q1
 have d2:(c.look.step l σ).done=true:=by simpa using q2
 rw [ClimbS.stp_b d1 d2 q3,ClimbS.cnt_n d1]
 exact ⟨rfl,rfl⟩
 refine sA (xmi rfl (TL.gtr rfl rfl rfl rfl (fun q4=>?_) (fun q4=>?_)))
 refine xmt rfl (xmi rfl (xmp rfl (xN0 rfl (xf 0 zcl rfl (xL3 0 zaa rfl rfl (TL.callD [] [] (zaV hl) ⟨rfl,trivial⟩ trivial zbE rfl rfl rfl rfl rfl trivial (TL.leq rfl rfl rfl rfl (fun q5=>?_) (fun q5=>?_))))))))
 refine xpT rfl (xat rfl (dT rfl (xmp rfl (xmi rfl (xN0 rfl (xf 3 zd8 rfl (TL.st 0 #[_,_,_,_,_,_,_,_,_] (.int _ _) rfl rfl rfl rfl rfl rfl zac rfl rfl trivial (TL.done ?_))))))))
 refine TQ.then (TC.draw2 [(0,true),(1,true),(2,true),(3,true),(4,true),(5,true),(6,true),(7,true),(8,true),(9,true),(10,false),(11,false),(12,true),(13,true)] 14 [] [0] fc_m (by kernel_rfl) (xmp rfl (xmp rfl (xN0 rfl (xf 0 zcl rfl (xL3 0 zaa rfl rfl (xmp rfl (xN0 rfl ?_))))))))
 refine xf 0 zcl rfl (xL3 0 zaa rfl rfl (xmi rfl (TL.callD [] [] (zay hl) ⟨rfl,rfl,rfl,trivial⟩ trivial zaW rfl rfl rfl rfl rfl (kL1 rfl trivial) (TL.call [] [3] zeB ⟨rfl,rfl,trivial⟩ trivial zk8 rfl rfl rfl rfl ?_))))
 rintro v Bs ⟨lb,rfl,rfl⟩
 refine ⟨rfl,(kL1 rfl trivial),?_⟩
 refine xN0 rfl (xf 4 zdk rfl (TL.late (TL.st 0 #[_,_,_,_,_,_,_,_,_] (.pointer (some ⟨_,_,none⟩)) rfl rfl rfl rfl rfl rfl zg0 rfl rfl trivial (TL.done (TQ.inBlock (TQ.then (sA (xmp rfl ?_))))))))
 refine xN0 rfl (xf 6 zck rfl (xlb 0 zbq rfl rfl (xab rfl (dR ?_))))
 first | refine TQ.close 0 3 (zaX 157 189 cb l (⟨c.node,c.look.step l σ,c.top,true,(c.look.step l σ).value,IntKind.i64.wrap (c.step+1)⟩)) (by decide) rfl rfl (fun _ _ _ s1 s2 hd h1 h2=>zaD s1 s2 hd h1 h2) ?_ | refine TQ.close 0 3 (zaX 157 189 cb l (⟨c.node,zdn (l.field c.node 1),true,c.done,c.version,IntKind.i64.wrap (c.step+1)⟩)) (by decide) rfl rfl (fun _ _ _ s1 s2 hd h1 h2=>zaD s1 s2 hd h1 h2) ?_ | refine TQ.close 0 3 (zaX 157 189 cb l (⟨(c.look.step l σ).value,zdn (l.field (c.look.step l σ).value 2),c.top,c.done,c.version,IntKind.i64.wrap (c.step+1)⟩)) (by decide) rfl rfl (fun _ _ _ s1 s2 hd h1 h2=>zaD s1 s2 hd h1 h2) ?_ | refine TQ.close 0 3 (zaX 157 189 cb l (⟨c.node,c.look.step l σ,c.top,c.done,c.version,IntKind.i64.wrap (c.step+1)⟩)) (by decide) rfl rfl (fun _ _ _ s1 s2 hd h1 h2=>zaD s1 s2 hd h1 h2) ?_ | refine TQ.close 0 3 (zaX 157 189 cb l (c)) (by decide) rfl rfl (fun _ _ _ s1 s2 hd h1 h2=>zaD s1 s2 hd h1 h2) ?_
 refine FQ.ret1 (v:=(.bool _)) (Bs:=[_,_]) [0,1] rfl rfl rfl ⟨rfl,rfl,trivial⟩ ?_
 have d1:c.done=false:=q1
 have d2:(c.look.step l σ).done=true:=by simpa using q2
 rw [ClimbS.stp_c d1 d2 q3 q4 q5,ClimbS.cnt_n d1]
 exact ⟨by rw [d1],rfl⟩
 refine xpG rfl (xaf rfl (TL.done (TQ.then (TC.condF rfl (sA (xmp rfl (xN0 rfl (xf 5 ze2 rfl ?_))))))))
 refine TL.st 0 #[_,_,_,_,_,_,_,_,_] (.bool true) rfl rfl rfl rfl rfl rfl zbq rfl rfl trivial (TL.done (TQ.then (TC.draw2 [(0,true),(1,true),(2,true),(3,true),(4,true),(5,true),(6,true),(7,true),(8,true),(9,true),(10,true),(11,true),(12,true),(13,false),(14,false),(15,true),(16,true)] 17 [] [0] fc_m (by kernel_rfl) (xmp rfl (xmp rfl (xN0 rfl (xf 0 zcl rfl (xL3 0 zaa rfl rfl ?_))))))))
 refine xmp rfl (xN0 rfl (xf 0 zcl rfl (xL3 0 zaa rfl rfl (xmp rfl (xN0 rfl (xf 3 zd8 rfl (xli 0 zac rfl rfl (TL.callD [] [] (zay hl) ⟨rfl,rfl,rfl,trivial⟩ trivial zaW rfl rfl rfl rfl rfl (kL1 rfl trivial) ?_))))))))
 refine TL.call [] [4] zeB ⟨rfl,rfl,trivial⟩ trivial zk8 rfl rfl rfl rfl ?_
 rintro v Bs ⟨lb,rfl,rfl⟩
 refine ⟨rfl,(kL1 rfl trivial),?_⟩
 refine xN0 rfl (xf 4 zdk rfl (TL.late (TL.st 0 #[_,_,_,_,_,_,_,_,_] (.pointer (some ⟨_,_,none⟩)) rfl rfl rfl rfl rfl rfl zg0 rfl rfl trivial (TL.done (TQ.inBlock (TQ.then (sA (xmp rfl ?_))))))))
 refine xN0 rfl (xf 6 zck rfl (xlb 0 zbq rfl rfl (xab rfl (dR ?_))))
 first | refine TQ.close 0 4 (zaX 157 189 cb l (⟨c.node,c.look.step l σ,c.top,true,(c.look.step l σ).value,IntKind.i64.wrap (c.step+1)⟩)) (by decide) rfl rfl (fun _ _ _ s1 s2 hd h1 h2=>zaD s1 s2 hd h1 h2) ?_ | refine TQ.close 0 4 (zaX 157 189 cb l (⟨c.node,zdn (l.field c.node 1),true,c.done,c.version,IntKind.i64.wrap (c.step+1)⟩)) (by decide) rfl rfl (fun _ _ _ s1 s2 hd h1 h2=>zaD s1 s2 hd h1 h2) ?_ | refine TQ.close 0 4 (zaX 157 189 cb l (⟨(c.look.step l σ).value,zdn (l.field (c.look.step l σ).value 2),c.top,c.done,c.version,IntKind.i64.wrap (c.step+1)⟩)) (by decide) rfl rfl (fun _ _ _ s1 s2 hd h1 h2=>zaD s1 s2 hd h1 h2) ?_ | refine TQ.close 0 4 (zaX 157 189 cb l (⟨c.node,c.look.step l σ,c.top,c.done,c.version,IntKind.i64.wrap (c.step+1)⟩)) (by decide) rfl rfl (fun _ _ _ s1 s2 hd h1 h2=>zaD s1 s2 hd h1 h2) ?_ | refine TQ.close 0 4 (zaX 157 189 cb l (c)) (by decide) rfl rfl (fun _ _ _ s1 s2 hd h1 h2=>zaD s1 s2 hd h1 h2) ?_
 refine FQ.ret1 (v:=(.bool _)) (Bs:=[_,_]) [0,1] rfl rfl rfl ⟨rfl,rfl,trivial⟩ ?_
 have d1:c.done=false:=q1
 have d2:(c.look.step l σ).done=true:=by simpa using q2
 rw [ClimbS.stp_e d1 d2 q3 (fun h=>q5 h.2),ClimbS.cnt_n d1]
 exact ⟨by rw [d1],rfl⟩
 refine xmf rfl (xo rfl (xo rfl (xo rfl (xo rfl (xo rfl (xo rfl (xo rfl (xpF rfl ?_))))))))
 refine xaf rfl (TL.done (TQ.then (TC.condF rfl (sA (xmp rfl (xN0 rfl (xf 5 ze2 rfl (TL.st 0 #[_,_,_,_,_,_,_,_,_] (.bool true) rfl rfl rfl rfl rfl rfl zbq rfl rfl trivial ?_))))))))
 refine TL.done (TQ.then (TC.draw2 [(0,true),(1,true),(2,true),(3,true),(4,true),(5,true),(6,true),(7,true),(8,true),(9,true),(10,true),(11,true),(12,true),(13,false),(14,false),(15,true),(16,true)] 17 [] [0] fc_m (by kernel_rfl) (xmp rfl (xmp rfl (xN0 rfl (xf 0 zcl rfl (xL3 0 zaa rfl rfl (xmp rfl ?_))))))))
 refine xN0 rfl (xf 0 zcl rfl (xL3 0 zaa rfl rfl (xmp rfl (xN0 rfl (xf 3 zd8 rfl (xli 0 zac rfl rfl (TL.callD [] [] (zay hl) ⟨rfl,rfl,rfl,trivial⟩ trivial zaW rfl rfl rfl rfl rfl (kL1 rfl trivial) (TL.call [] [5] zeB ⟨rfl,rfl,trivial⟩ trivial zk8 rfl rfl rfl rfl ?_))))))))
 rintro v Bs ⟨lb,rfl,rfl⟩
 refine ⟨rfl,(kL1 rfl trivial),?_⟩
 refine xN0 rfl (xf 4 zdk rfl (TL.late (TL.st 0 #[_,_,_,_,_,_,_,_,_] (.pointer (some ⟨_,_,none⟩)) rfl rfl rfl rfl rfl rfl zg0 rfl rfl trivial (TL.done (TQ.inBlock (TQ.then (sA (xmp rfl ?_))))))))
 refine xN0 rfl (xf 6 zck rfl (xlb 0 zbq rfl rfl (xab rfl (dR ?_))))
 first | refine TQ.close 0 5 (zaX 157 189 cb l (⟨c.node,c.look.step l σ,c.top,true,(c.look.step l σ).value,IntKind.i64.wrap (c.step+1)⟩)) (by decide) rfl rfl (fun _ _ _ s1 s2 hd h1 h2=>zaD s1 s2 hd h1 h2) ?_ | refine TQ.close 0 5 (zaX 157 189 cb l (⟨c.node,zdn (l.field c.node 1),true,c.done,c.version,IntKind.i64.wrap (c.step+1)⟩)) (by decide) rfl rfl (fun _ _ _ s1 s2 hd h1 h2=>zaD s1 s2 hd h1 h2) ?_ | refine TQ.close 0 5 (zaX 157 189 cb l (⟨(c.look.step l σ).value,zdn (l.field (c.look.step l σ).value 2),c.top,c.done,c.version,IntKind.i64.wrap (c.step+1)⟩)) (by decide) rfl rfl (fun _ _ _ s1 s2 hd h1 h2=>zaD s1 s2 hd h1 h2) ?_ | refine TQ.close 0 5 (zaX 157 189 cb l (⟨c.node,c.look.step l σ,c.top,c.done,c.version,IntKind.i64.wrap (c.step+1)⟩)) (by decide) rfl rfl (fun _ _ _ s1 s2 hd h1 h2=>zaD s1 s2 hd h1 h2) ?_ | refine TQ.close 0 5 (zaX 157 189 cb l (c)) (by decide) rfl rfl (fun _ _ _ s1 s2 hd h1 h2=>zaD s1 s2 hd h1 h2) ?_
 refine FQ.ret1 (v:=(.bool _)) (Bs:=[_,_]) [0,1] rfl rfl rfl ⟨rfl,rfl,trivial⟩ ?_
 have d1:c.done=false:=q1
 have d2:(c.look.step l σ).done=true:=by simpa using q2
 rw [ClimbS.stp_e d1 d2 q3 (fun h=>q4 h.1),ClimbS.cnt_n d1]
 exact ⟨by rw [d1],rfl⟩
 refine xnf rfl (dT rfl (xaf rfl (dRR ?_)))
 first | refine TQ.close 0 2 (zaX 157 189 cb l (⟨c.node,c.look.step l σ,c.top,true,(c.look.step l σ).value,IntKind.i64.wrap (c.step+1)⟩)) (by decide) rfl rfl (fun _ _ _ s1 s2 hd h1 h2=>zaD s1 s2 hd h1 h2) ?_ | refine TQ.close 0 2 (zaX 157 189 cb l (⟨c.node,zdn (l.field c.node 1),true,c.done,c.version,IntKind.i64.wrap (c.step+1)⟩)) (by decide) rfl rfl (fun _ _ _ s1 s2 hd h1 h2=>zaD s1 s2 hd h1 h2) ?_ | refine TQ.close 0 2 (zaX 157 189 cb l (⟨(c.look.step l σ).value,zdn (l.field (c.look.step l σ).value 2),c.top,c.done,c.version,IntKind.i64.wrap (c.step+1)⟩)) (by decide) rfl rfl (fun _ _ _ s1 s2 hd h1 h2=>zaD s1 s2 hd h1 h2) ?_ | refine TQ.close 0 2 (zaX 157 189 cb l (⟨c.node,c.look.step l σ,c.top,c.done,c.version,IntKind.i64.wrap (c.step+1)⟩)) (by decide) rfl rfl (fun _ _ _ s1 s2 hd h1 h2=>zaD s1 s2 hd h1 h2) ?_ | refine TQ.close 0 2 (zaX 157 189 cb l (c)) (by decide) rfl rfl (fun _ _ _ s1 s2 hd h1 h2=>zaD s1 s2 hd h1 h2) ?_
 refine FQ.ret1 (v:=(.bool false)) (Bs:=[_,_]) [0,1] rfl rfl rfl ⟨rfl,rfl,trivial⟩ ?_
 have d1:c.done=false:=q1
 have d2:(c.look.step l σ).done=false:=by simpa using q2
 rw [ClimbS.stp_a d1 d2,ClimbS.cnt_n d1]
 exact ⟨by rw [d1],rfl⟩
theorem zrr {l:Lay} (hl:l.Ok) {ab mb:Nat} {σ:Array UInt64}:Go.Eng.Fn Tryz.prog 124 [zgh l 88 (.agg #[.pointer (some ⟨ab,0,none⟩)])] [zaj ab mb 140 71 (σ)] (fun x Bs=>∃ d:Array Int,Bs=[zaj ab mb 140 71 (σ),ownA encI 1 3 x d]∧d.size≤300∧AllD l σ d l.V (l.V+1)):=by
 have hb:=zeX hl
 refine Fn.enter (Tryz.func124) rfl rfl (fun w0 R=>?_)
 refine sA (xB 1 rfl (fun bk1=>(TL.asg (.slice none 0 0) rfl rfl rfl (dA (TL.asg (.slice none 0 0) rfl rfl rfl (dS (TC.seq (TC.nilA 2 (A:=ownA encI 1 3 (.slice none 0 0) #[]) (.inl ⟨rfl,rfl⟩) (TC.region ?_)))))))))
 refine xf 0 zaL rfl (xf 0 zaJ rfl (xli 1 zac rfl rfl (xmi rfl (dK (TC.loopK (X:=Nat×Value×Array Int) [1,2,11] [0,1] (fun ⟨u,v,d⟩=>[(12,.int .i64 ((u:Nat):Int)),(3,v)]) (fun ⟨u,v,d⟩=>[(2,ownA encI 1 3 v d)]) (fun ⟨u,v,d⟩=>u≤l.V∧d.size≤u * 17∧AllD l σ d u (u+1)) (fun ⟨u,v,d⟩=>l.V - u) ((0,.slice none 0 0,#[])) ⟨Nat.zero_le _,Nat.zero_le _,AllD.start (by decide)⟩ ⟨rfl,rfl,trivial⟩ ⟨rfl,trivial⟩ (fun y hI=>?_))))))
 obtain ⟨u,v,d⟩:=y
 obtain ⟨hu,hdz,hA⟩:=hI
 replace hu:u≤l.V:=hu
 replace hdz:d.size≤u * 17:=hdz
 replace hA:AllD l σ d u (u+1):=hA
 refine TC.sub (env':=[(12,_),(3,_),(1,_),(2,_),(11,_)]) (L':=[(2,_),(0,_),(1,_)]) ⟨rfl,rfl,rfl,rfl,rfl,trivial⟩ ⟨rfl,rfl,rfl,trivial⟩ (sA (TL.lss rfl rfl rfl rfl (fun q1=>?_) (fun q1=>?_)))
 refine dS (TC.condT rfl (TC.skip (TQ.then (TC.seq (TC.block (sA (xmi rfl (xai rfl ?_))))))))
 refine dA (xmi rfl (TL.add (((u+1:Nat):Int)) rfl rfl (wrN (by omega)) rfl rfl (xai rfl (dK (TC.loopK (X:=Nat×Value×Array Int) [1,2,4,11,12] [0,1] (fun ⟨w,v2,d2⟩=>[(5,.int .i64 ((w:Nat):Int)),(3,v2)]) (fun ⟨w,v2,d2⟩=>[(2,ownA encI 1 3 v2 d2)]) (fun ⟨w,v2,d2⟩=>(u+1≤w∧(w≤l.V∨w=u+1))∧d2.size≤u * 17+w∧AllD l σ d2 u w) (fun ⟨w,v2,d2⟩=>l.V - w) ((u+1,v,d)) ⟨⟨Nat.le_refl _,.inr rfl⟩,(show d.size≤u * 17+(u+1) by omega),hA⟩ ⟨rfl,rfl,trivial⟩ ⟨rfl,trivial⟩ (fun y hI=>?_))))))
 obtain ⟨w,v2,d2⟩:=y
 obtain ⟨⟨hw1,hw2⟩,hdz2,hA2⟩:=hI
 replace hw1:u+1≤w:=hw1
 replace hw2:w≤l.V∨w=u+1:=hw2
 replace hdz2:d2.size≤u * 17+w:=hdz2
 replace hA2:AllD l σ d2 u w:=hA2
 refine TC.sub (env':=[(5,_),(3,_),(1,_),(2,_),(4,_),(11,_),(12,_)]) (L':=[(2,_),(0,_),(1,_)]) ⟨rfl,rfl,rfl,rfl,rfl,rfl,rfl,trivial⟩ ⟨rfl,rfl,rfl,trivial⟩ (sB (xmi rfl (xf 0 zaL rfl (xf 0 zaJ rfl (xli 1 zac rfl rfl (TL.lss rfl rfl rfl rfl (fun q2=>?_) (fun q2=>?_)))))))
 refine TL.done (TQ.then (TC.condT rfl (TC.skip (TQ.then (TC.seq (TC.block (sA (xL4 1 zaP rfl rfl ?_))))))))
 refine xmi rfl (xmi rfl (TL.callD [0] [0] (zcw zam hl) ⟨rfl,rfl,rfl,trivial⟩ ⟨rfl,trivial⟩ zdv rfl rfl rfl rfl rfl trivial (xmu rfl (xei rfl rfl (TL.ext (.bool _) rfl rfl rfl rfl (TL.ext (.bool _) rfl rfl rfl rfl (xai rfl (xab rfl ?_))))))))
 refine xab rfl (dA (xmb rfl (TL.cases rfl (fun q3=>?_) (fun q3=>?_))))
 refine TL.done (TQ.then (TC.condT rfl (TC.region (xmv rfl (xmi rfl (TL.bsN 3 [_] (encI (find l σ (u:Int) (w:Int)).slot) zfZ zr4 ⟨rfl,trivial⟩ rfl (lit1 rfl) rfl rfl (fun bk3=>⟨trivial,?_⟩)))))))
 refine TL.appS 2 3 (d2:=#[(find l σ (u:Int) (w:Int)).slot]) rfl (rfl) rfl (fun _=>rfl) rfl rfl (row1 rfl) zpe (by decide) zlS (by simp; omega) rfl rfl (fun v4=>⟨trivial,?_⟩)
 refine xav rfl (dI (xmi rfl (TL.add (((w+1:Nat):Int)) rfl rfl (wrN (by omega)) rfl rfl (xai rfl (TL.done (TQ.roundK ((w+1,_,d2++#[(find l σ (u:Int) (w:Int)).slot])) ⟨⟨⟨(show u+1≤w+1 by omega),.inl (show w+1≤l.V by omega)⟩,(show (d2++#[(find l σ (u:Int) (w:Int)).slot]).size≤u * 17+(w+1) by simp; omega),hA2.yes (by omega) (by omega) (by assumption)⟩,(show l.V - (w+1)<l.V - w by omega)⟩ ⟨rfl,rfl,trivial⟩ ⟨rfl,trivial⟩ (kE5 rfl rfl rfl rfl rfl trivial) (kL2 rfl rfl trivial)))))))
 refine TL.done (TQ.then (TC.condF rfl (TC.skip (TQ.inBlock (TQ.then (TC.region (xmi rfl (TL.add (((w+1:Nat):Int)) rfl rfl (wrN (by omega)) rfl rfl ?_))))))))
 refine xai rfl (TL.done (TQ.roundK ((w+1,_,d2)) ⟨⟨⟨(show u+1≤w+1 by omega),.inl (show w+1≤l.V by omega)⟩,(show d2.size≤u * 17+(w+1) by omega),hA2.no (by assumption)⟩,(show l.V - (w+1)<l.V - w by omega)⟩ ⟨rfl,rfl,trivial⟩ ⟨rfl,trivial⟩ (kE5 rfl rfl rfl rfl rfl trivial) (kL2 rfl rfl trivial)))
 refine TL.done (TQ.then (TC.condF rfl (TC.exit (TQ.thenExit (TQ.thenExit (TQ.blockHere (TQ.inBlock (TQ.then ?_))))))))
 refine TC.region (TL.add (((u+1:Nat):Int)) rfl rfl (wrN (by omega)) rfl rfl (xmi rfl (TL.done (TQ.roundK ((u+1,_,d2)) ⟨⟨(show u+1≤l.V by omega),(show d2.size≤(u+1) * 17 by omega),hA2.row (by omega) (by omega)⟩,(show l.V - (u+1)<l.V - u by omega)⟩ ⟨rfl,rfl,trivial⟩ ⟨rfl,trivial⟩ (kE3 rfl rfl rfl trivial) (kL2 rfl rfl trivial)))))
 refine dS (TC.condF rfl (TC.exit (TQ.thenExit (TQ.thenExit (TQ.blockHere (TQ.then (sA (xmv rfl ?_))))))))
 refine xav rfl (dR ?_)
 refine FQ.ret1 (v:=_) (Bs:=[_,_]) [0,2] rfl rfl rfl ⟨rfl,rfl,trivial⟩ ?_
 obtain rfl:u=l.V:=by omega
 exact ⟨d,rfl,by omega,hA⟩
theorem zjU {V S T:Int}  : FnD Tryz.prog 72 [.agg #[.int .i64 V,.int .i64 S,.int .i64 T]] [] (.bool (decide (okL V S T))) []:=by
 refine Fn.enter (Tryz.func72) rfl rfl (fun w0 R=>?_)
 refine sA (xB 0 rfl (fun bk0=>(xaf rfl (dA (xf 0 zg7 rfl (xli 0 zac rfl rfl (TL.geq rfl rfl rfl rfl (fun q1=>?_) (fun q1=>?_))))))))
 refine xmt rfl (xf 0 zg7 rfl (xli 0 zac rfl rfl (TL.leq rfl rfl rfl rfl (fun q2=>?_) (fun q2=>?_))))
 refine xpT rfl (xmt rfl (xf 1 zg6 rfl (xli 0 zac rfl rfl (TL.geq rfl rfl rfl rfl (fun q3=>?_) (fun q3=>?_)))))
 refine xpT rfl (xmt rfl (xf 1 zg6 rfl (xli 0 zac rfl rfl (TL.leq rfl rfl rfl rfl (fun q4=>?_) (fun q4=>?_)))))
 refine xpT rfl (xmt rfl (xf 2 zg5 rfl (xli 0 zac rfl rfl (TL.geq rfl rfl rfl rfl (fun q5=>?_) (fun q5=>?_)))))
 refine xpT rfl (xmt rfl (xf 2 zg5 rfl (xli 0 zac rfl rfl (TL.leqV rfl rfl rfl rfl (TL.pickT (.bool _) rfl rfl rfl rfl (xab rfl (dR ?_)))))))
 refine FQ.ret1 (v:=(.bool _)) (Bs:=[]) [] rfl rfl rfl trivial ?_
 first | exact ⟨congrArg Value.bool (by unfold okL; first | (simp [*]; done) | (simp [*]; omega) | (rw [eq_comm,decide_eq_false_iff_not]; omega) | (rw [eq_comm,decide_eq_true_iff]; omega) | (rw [decide_eq_decide]; omega)),rfl⟩
 refine xpG rfl (xmf rfl (xo rfl (xo rfl (xo rfl (xpF rfl (xaf rfl (dR ?_)))))))
 refine FQ.ret1 (v:=(.bool false)) (Bs:=[]) [] rfl rfl rfl trivial ?_
 first | exact ⟨congrArg Value.bool (by unfold okL; first | (simp [*]; done) | (simp [*]; omega) | (rw [eq_comm,decide_eq_false_iff_not]; omega) | (rw [eq_comm,decide_eq_true_iff]; omega) | (rw [decide_eq_decide]; omega)),rfl⟩
 refine xpG rfl (xmf rfl (xo rfl (xo rfl (xo rfl (xpF rfl (xmf rfl (xo rfl (xo rfl ?_))))))))
 refine xo rfl (xpF rfl (xaf rfl (dR ?_)))
 refine FQ.ret1 (v:=(.bool false)) (Bs:=[]) [] rfl rfl rfl trivial ?_
 first | exact ⟨congrArg Value.bool (by unfold okL; first | (simp [*]; done) | (simp [*]; omega) | (rw [eq_comm,decide_eq_false_iff_not]; omega) | (rw [eq_comm,decide_eq_true_iff]; omega) | (rw [decide_eq_decide]; omega)),rfl⟩
 refine xpG rfl (xmf rfl (xo rfl (xo rfl (xo rfl (xpF rfl (xmf rfl (xo rfl (xo rfl ?_))))))))
 refine xo rfl (xpF rfl (xmf rfl (xo rfl (xo rfl (xo rfl (xpF rfl (xaf rfl (dR ?_))))))))
 refine FQ.ret1 (v:=(.bool false)) (Bs:=[]) [] rfl rfl rfl trivial ?_
 first | exact ⟨congrArg Value.bool (by unfold okL; first | (simp [*]; done) | (simp [*]; omega) | (rw [eq_comm,decide_eq_false_iff_not]; omega) | (rw [eq_comm,decide_eq_true_iff]; omega) | (rw [decide_eq_decide]; omega)),rfl⟩
 refine xpG rfl (xmf rfl (xo rfl (xo rfl (xo rfl (xpF rfl (xmf rfl (xo rfl (xo rfl ?_))))))))
 refine xo rfl (xpF rfl (xmf rfl (xo rfl (xo rfl (xo rfl (xpF rfl (xmf rfl (xo rfl ?_))))))))
 refine xo rfl (xo rfl (xpF rfl (xaf rfl (dR ?_))))
 refine FQ.ret1 (v:=(.bool false)) (Bs:=[]) [] rfl rfl rfl trivial ?_
 first | exact ⟨congrArg Value.bool (by unfold okL; first | (simp [*]; done) | (simp [*]; omega) | (rw [eq_comm,decide_eq_false_iff_not]; omega) | (rw [eq_comm,decide_eq_true_iff]; omega) | (rw [decide_eq_decide]; omega)),rfl⟩
 refine xmf rfl (xo rfl (xo rfl (xo rfl (xpF rfl (xmf rfl (xo rfl (xo rfl (xo rfl ?_))))))))
 refine xpF rfl (xmf rfl (xo rfl (xo rfl (xo rfl (xpF rfl (xmf rfl (xo rfl (xo rfl ?_))))))))
 refine xo rfl (xpF rfl (xmf rfl (xo rfl (xo rfl (xo rfl (xpF rfl (xaf rfl (dR ?_))))))))
 refine FQ.ret1 (v:=(.bool false)) (Bs:=[]) [] rfl rfl rfl trivial ?_
 first | exact ⟨congrArg Value.bool (by unfold okL; first | (simp [*]; done) | (simp [*]; omega) | (rw [eq_comm,decide_eq_false_iff_not]; omega) | (rw [eq_comm,decide_eq_true_iff]; omega) | (rw [decide_eq_decide]; omega)),rfl⟩
theorem FnD.arenaA2 {P:Program} {f:FuncId} {args:List Value} {ab mb:Nat} {T T':TypeId} {σ σ':Array UInt64} {X X':Assn} {r:Value} (h:∀ c,∃ c',FnD P f args [X,arenaC ab mb T T' σ c] r [X',arenaC ab mb T T' σ' c']):FnD P f args [X,zaj ab mb T T' σ] r [X',zaj ab mb T T' σ']:=by
 refine Fn.swapI ?_
 intro w0 R w hs
 obtain ⟨c,hs1⟩:=hs.head_ex
 obtain ⟨c',h1⟩:=h c
 refine (h1 w0 R w hs1.swap2).mono ?_
 rintro e w' ⟨v,Bs,he,⟨rfl,rfl⟩,hs'⟩
 exact ⟨_,_,he,⟨rfl,rfl⟩,(hs'.swap2.head (B:=zaj ab mb T T' σ') fun x hx=>⟨c',hx⟩).swap2⟩
theorem zm6 {h:Nat} (hh:h≤10000):FnD Tryz.prog 70 [.int .i64 ((h:Nat):Int)] [] (.int .i64 ((8 * (h+1):Nat):Int)) []:=by
 refine Fn.enter (Tryz.func70) rfl rfl (fun w0 R=>?_)
 refine sA (xai rfl (dB (xmi rfl (TL.lssF rfl rfl (by omega) rfl rfl (dF rfl (xmi rfl (TL.add (((h+1:Nat):Int)) rfl rfl (wrN (by omega)) rfl rfl (TL.mul (((8 * (h+1):Nat):Int)) rfl rfl (wrN (by omega)) rfl rfl ?_))))))))
 refine xai rfl (dR ?_)
 refine FQ.ret1 (v:=(.int _ _)) (Bs:=[]) [] rfl rfl rfl trivial ?_
 exact ⟨rfl,rfl⟩
set_option maxHeartbeats 2000000 in
theorem ziw {l:Lay} {kb cb:Nat} {c:CollectS}:FnD Tryz.prog 108 [.pointer (some ⟨kb,0,none⟩)] [zee 168 kb cb l (c)] (.tuple #[]) [zee 168 kb cb l (c.over)]:=by
 refine Fn.enter (Tryz.func108) rfl rfl (fun w0 R=>?_)
 refine sA (xmp rfl (xN0 rfl (xf 18 zdu rfl (xli 0 zac rfl rfl (TL.add _ rfl rfl (rfl) rfl rfl (xN0 rfl (xf 18 zdu rfl (TL.st 0 #[_,_,_,_,_,_,_,_,_,_,_,_,_,_,_,_,_,_,_,_] (.int _ _) rfl rfl rfl rfl rfl rfl zac rfl rfl trivial ?_))))))))
 refine dS (TC.seq (TC.draw [(0,true),(1,true),(2,true),(3,true),(4,true),(5,true),(6,true),(7,true),(8,true),(9,true),(10,true),(11,true),(12,true),(13,true),(14,true),(15,true),(16,true),(17,true),(18,true),(19,true),(20,true),(21,true),(22,true),(23,true),(24,true),(25,true),(26,true),(27,true),(28,true),(29,true),(30,true)] [0] fc_m (by kernel_rfl) (xmp rfl (xN0 rfl (xf 18 zdu rfl (xli 0 zac rfl rfl (TL.gtr rfl rfl rfl rfl (fun q1=>?_) (fun q1=>?_))))))))
 refine xmt rfl (xmp rfl (xN0 rfl (xf 6 zaT rfl (xf 0 zcM rfl (xL2 0 za3 rfl rfl (xmp rfl (xN0 rfl (xf 11 zbD rfl ?_))))))))
 refine xf 0 zcM rfl (xL2 0 za3 rfl rfl (TL.eqlA rfl rfl (zpy (by kernel_rfl) (c.now.u) (c.last.u)) zk7 rfl rfl (TL.cases rfl (fun q2=>?_) (fun q2=>?_))))
 refine xpT rfl (xmt rfl (xmp rfl (xN0 rfl (xf 6 zaT rfl (xf 2 zcL rfl (xL2 0 za3 rfl rfl (xmp rfl (xN0 rfl ?_))))))))
 refine xf 11 zbD rfl (xf 2 zcL rfl (xL2 0 za3 rfl rfl (TL.eqlA rfl rfl (zpy (by kernel_rfl) (c.now.v) (c.last.v)) zk7 rfl rfl (TL.cases rfl (fun q3=>?_) (fun q3=>?_)))))
 refine xpT rfl (dT rfl (xmp rfl (xN0 rfl (xf 17 zbC rfl (TL.st 0 #[_,_,_,_,_,_,_,_,_,_,_,_,_,_,_,_,_,_,_,_] (.bool true) rfl rfl rfl rfl rfl rfl zbq rfl rfl trivial (dRR ?_))))))
 refine FQ.ret0 (Bs:=[_]) [0] rfl rfl ⟨rfl,trivial⟩ ?_
 have h1:=of_decide_eq_true q2
 have h2:=of_decide_eq_true q3
 exact ⟨rfl,by rw [CollectS.over_y q1 h1 h2]; rfl⟩
 refine xpG rfl (TL.done (TQ.then (TC.condF rfl (TC.skip (TQ.then (TC.region (xmp rfl (xmp rfl ?_))))))))
 refine xmp rfl (xN0 rfl (xf 6 zaT rfl (xL5 0 zcx rfl rfl (TL.bld [.int .i64 0,.int .i64 0,.int .i64 0,.int .i64 0,.int .i64 0] [] [_,_,_,_,_] zkg zkh trivial ⟨rfl,rfl⟩ rfl rfl (xN0 rfl (xf 11 zbD rfl (TL.stA 0 5 #[_,_,_,_,_,_,_,_,_,_,_,_,_,_,_,_,_,_,_,_] [_,_,_,_,_] rfl rfl rfl rfl rfl rfl rfl zcx rfl rfl trivial (xN0 rfl ?_))))))))
 refine xf 6 zaT rfl (TL.stA 0 5 #[_,_,_,_,_,_,_,_,_,_,_,_,_,_,_,_,_,_,_,_] [_,_,_,_,_] rfl rfl rfl rfl rfl rfl rfl zcx rfl rfl trivial (TL.done ?_))
 refine FQ.end0 (Bs:=[_]) [0] rfl rfl ⟨rfl,trivial⟩ ?_
 exact ⟨rfl,by rw [CollectS.over_n (fun h=>of_decide_eq_false q3 h.2.2)]; rfl⟩
 refine xpG rfl (xmf rfl (xo rfl (xo rfl (xo rfl (xo rfl (xo rfl (xo rfl (xo rfl ?_))))))))
 refine xo rfl (xo rfl (xo rfl (xo rfl (xpF rfl (TL.done (TQ.then (TC.condF rfl (TC.skip ?_))))))))
 refine TQ.then (TC.region (xmp rfl (xmp rfl (xmp rfl (xN0 rfl (xf 6 zaT rfl (xL5 0 zcx rfl rfl (TL.bld [.int .i64 0,.int .i64 0,.int .i64 0,.int .i64 0,.int .i64 0] [] [_,_,_,_,_] zkg zkh trivial ⟨rfl,rfl⟩ rfl rfl ?_))))))))
 refine xN0 rfl (xf 11 zbD rfl (TL.stA 0 5 #[_,_,_,_,_,_,_,_,_,_,_,_,_,_,_,_,_,_,_,_] [_,_,_,_,_] rfl rfl rfl rfl rfl rfl rfl zcx rfl rfl trivial (xN0 rfl (xf 6 zaT rfl (TL.stA 0 5 #[_,_,_,_,_,_,_,_,_,_,_,_,_,_,_,_,_,_,_,_] [_,_,_,_,_] rfl rfl rfl rfl rfl rfl rfl zcx rfl rfl trivial (TL.done ?_))))))
 refine FQ.end0 (Bs:=[_]) [0] rfl rfl ⟨rfl,trivial⟩ ?_
 exact ⟨rfl,by rw [CollectS.over_n (fun h=>of_decide_eq_false q2 h.2.1)]; rfl⟩
 refine xmf rfl (xo rfl (xo rfl (xo rfl (xo rfl (xo rfl (xo rfl (xo rfl (xo rfl ?_))))))))
 refine xo rfl (xo rfl (xo rfl (xpF rfl (xmf rfl (xo rfl (xo rfl (xo rfl (xo rfl ?_))))))))
 refine xo rfl (xo rfl (xo rfl (xo rfl (xo rfl (xo rfl (xo rfl (xpF rfl (TL.done ?_))))))))
 refine TQ.then (TC.condF rfl (TC.skip (TQ.then (TC.region (xmp rfl (xmp rfl (xmp rfl (xN0 rfl ?_))))))))
 refine xf 6 zaT rfl (xL5 0 zcx rfl rfl (TL.bld [.int .i64 0,.int .i64 0,.int .i64 0,.int .i64 0,.int .i64 0] [] [_,_,_,_,_] zkg zkh trivial ⟨rfl,rfl⟩ rfl rfl (xN0 rfl (xf 11 zbD rfl (TL.stA 0 5 #[_,_,_,_,_,_,_,_,_,_,_,_,_,_,_,_,_,_,_,_] [_,_,_,_,_] rfl rfl rfl rfl rfl rfl rfl zcx rfl rfl trivial (xN0 rfl (xf 6 zaT rfl (TL.stA 0 5 #[_,_,_,_,_,_,_,_,_,_,_,_,_,_,_,_,_,_,_,_] [_,_,_,_,_] rfl rfl rfl rfl rfl rfl rfl zcx rfl rfl trivial ?_))))))))
 refine TL.done ?_
 refine FQ.end0 (Bs:=[_]) [0] rfl rfl ⟨rfl,trivial⟩ ?_
 exact ⟨rfl,by rw [CollectS.over_n (fun h=>q1 h.1)]; rfl⟩
theorem zm5 {l:Lay} (hl:l.Ok) {u v:Int}:Go.Eng.Fn Tryz.prog 62 [layV l,.int .i64 u,.int .i64 v] [] (fun x Bs=>∃ kb,x=.pointer (some ⟨kb,0,none⟩)∧Bs=[zal 168 157 189 kb l (za8 l u v)]):=by
 refine Fn.enter (Tryz.func62) rfl rfl (fun w0 R=>?_)
 refine sA (xB 0 rfl (fun bk0=>(TL.asg (.pointer none) rfl rfl rfl (dS (TC.draw [(0,true),(1,true),(2,true),(3,true),(4,true),(5,false),(6,true),(7,false),(8,true)] [0] fc_m (by kernel_rfl) (xL3 0 zaa rfl rfl (xmi rfl (xmi rfl (xL3 0 zaa rfl rfl ?_)))))))))
 refine xmi rfl (TL.call [] [1] (ze8 hl) ⟨rfl,rfl,trivial⟩ trivial zhc rfl rfl rfl rfl ?_)
 rintro x Bs ⟨cb,rfl,rfl⟩
 refine ⟨rfl,(kL1 rfl trivial),?_⟩
 refine TL.bld [.int .i64 0,.int .i64 0,.int .i64 0,.int .i64 0,.int .i64 0,.pointer none,.int .i64 0,.int .i64 0,.int .i64 0,.int .i64 0,.int .i64 0,.int .i64 0,.int .i64 0,.int .i64 0,.int .i64 0,.int .i64 0,.bool false,.bool false,.int .i64 0,.int .i64 0] [(.agg _),(.int _ _),(.int _ _),(.pointer (some ⟨_,_,none⟩))] [_,_,_,_,_,_,_,_,_,_,_,_,_,_,_,_,_,_,_,_] zqM zqW ⟨rfl,rfl,rfl,rfl,trivial⟩ ⟨rfl,rfl⟩ rfl rfl (TL.boxA 2 rfl rfl rfl (fun _=>(kL1 rfl trivial)) (fun bk2=>(xap rfl (dR (TQ.close 2 1 (zal 168 157 189 _ l (za8 l u v)) (by decide) rfl rfl (fun _ _ _ s1 s2 hd h1 h2=>zao s1 s2 hd h1 h2) ?_)))))
 refine FQ.ret1 (v:=(.pointer (some ⟨_,_,none⟩))) (Bs:=[_]) [2] rfl rfl rfl ⟨rfl,trivial⟩ ?_
 exact ⟨_,rfl,rfl⟩
theorem zgv {l:Lay} {kb:Nat} {c:CollectS}:FnD Tryz.prog 66 [.pointer (some ⟨kb,0,none⟩)] [zal 168 157 189 kb l (c)] (.bool c.done) [zal 168 157 189 kb l (c)]:=by
 refine Fn.enter (Tryz.func66) rfl rfl (fun w0 R=>?_)
 refine sA (xaf rfl (dS (TC.openE 0 rfl (fun cb=>(TC.openS 0 1 rfl (by decide) (TC.region (xmp rfl (xN0 rfl (xf 17 zbC rfl ?_)))))))))
 refine xlb 0 zbq rfl rfl (xab rfl (dR ?_))
 first | refine TQ.close 0 1 (zal 168 157 189 kb l (c)) (by decide) rfl rfl (fun _ _ _ s1 s2 hd h1 h2=>zao s1 s2 hd h1 h2) ?_
 refine FQ.ret1 (v:=(.bool _)) (Bs:=[_]) [0] rfl rfl rfl ⟨rfl,trivial⟩ ?_
 exact ⟨rfl,rfl⟩
theorem zhP {l:Lay} {kb:Nat} {c:CollectS}:FnD Tryz.prog 69 [.pointer (some ⟨kb,0,none⟩)] [zal 168 157 189 kb l (c)] (.int .i64 c.rounds) [zal 168 157 189 kb l (c)]:=by
 refine Fn.enter (Tryz.func69) rfl rfl (fun w0 R=>?_)
 refine sA (xai rfl (dS (TC.openE 0 rfl (fun cb=>(TC.openS 0 1 rfl (by decide) (TC.region (xmp rfl (xN0 rfl (xf 18 zdu rfl ?_)))))))))
 refine xli 0 zac rfl rfl (xai rfl (dR ?_))
 first | refine TQ.close 0 1 (zal 168 157 189 kb l (c)) (by decide) rfl rfl (fun _ _ _ s1 s2 hd h1 h2=>zao s1 s2 hd h1 h2) ?_
 refine FQ.ret1 (v:=(.int _ _)) (Bs:=[_]) [0] rfl rfl rfl ⟨rfl,trivial⟩ ?_
 exact ⟨rfl,rfl⟩
theorem zm4 {l:Lay} {kb:Nat} {c:CollectS}:FnD Tryz.prog 71 [.pointer (some ⟨kb,0,none⟩)] [zal 168 157 189 kb l (c)] (.int .i64 c.steps) [zal 168 157 189 kb l (c)]:=by
 refine Fn.enter (Tryz.func71) rfl rfl (fun w0 R=>?_)
 refine sA (xai rfl (dS (TC.openE 0 rfl (fun cb=>(TC.openS 0 1 rfl (by decide) (TC.region (xmp rfl (xN0 rfl (xf 19 zet rfl ?_)))))))))
 refine xli 0 zac rfl rfl (xai rfl (dR ?_))
 first | refine TQ.close 0 1 (zal 168 157 189 kb l (c)) (by decide) rfl rfl (fun _ _ _ s1 s2 hd h1 h2=>zao s1 s2 hd h1 h2) ?_
 refine FQ.ret1 (v:=(.int _ _)) (Bs:=[_]) [0] rfl rfl rfl ⟨rfl,trivial⟩ ?_
 exact ⟨rfl,rfl⟩
theorem zjo {l:Lay} {kb:Nat} {c:CollectS}:FnD Tryz.prog 68 [.pointer (some ⟨kb,0,none⟩)] [zal 168 157 189 kb l (c)] (.int .i64 c.point) [zal 168 157 189 kb l (c)]:=by
 refine Fn.enter (Tryz.func68) rfl rfl (fun w0 R=>?_)
 refine sA (xai rfl (dS (TC.seq (TC.openE 0 rfl (fun cb=>(TC.openS 0 1 rfl (by decide) (TC.region (xmp rfl (xN0 rfl ?_)))))))))
 refine xf 17 zbC rfl (xlb 0 zbq rfl rfl (TL.not _ _ rfl rfl rfl rfl (TL.done (TQ.then (TC.cond rfl (fun q1=>?_) (fun q1=>?_))))))
 refine sA (xai rfl (dRR ?_))
 first | refine TQ.close 0 1 (zal 168 157 189 kb l (c)) (by decide) rfl rfl (fun _ _ _ s1 s2 hd h1 h2=>zao s1 s2 hd h1 h2) ?_
 refine FQ.ret1 (v:=(.int _ _)) (Bs:=[_]) [0] rfl rfl rfl ⟨rfl,trivial⟩ ?_
 have q:c.done=false:=by simpa using q1
 exact ⟨iE (by unfold CollectS.point; rw [q]; rfl),rfl⟩
 refine TC.skip (TQ.then (sA (xmp rfl (xN0 rfl (xf 11 zbD rfl (xf 4 zd7 rfl (xli 0 zac rfl rfl (xai rfl ?_))))))))
 refine dR ?_
 first | refine TQ.close 0 1 (zal 168 157 189 kb l (c)) (by decide) rfl rfl (fun _ _ _ s1 s2 hd h1 h2=>zao s1 s2 hd h1 h2) ?_
 refine FQ.ret1 (v:=(.int _ _)) (Bs:=[_]) [0] rfl rfl rfl ⟨rfl,trivial⟩ ?_
 have q:c.done=true:=by simpa using q1
 exact ⟨iE (by unfold CollectS.point; rw [q]; rfl),rfl⟩
theorem zhQ {l:Lay} {kb:Nat} {c:CollectS}:FnD Tryz.prog 64 [.pointer (some ⟨kb,0,none⟩)] [zal 168 157 189 kb l (c)] (.bool c.joined) [zal 168 157 189 kb l (c)]:=by
 refine Fn.enter (Tryz.func64) rfl rfl (fun w0 R=>?_)
 refine sA (xaf rfl (dS (TC.openE 0 rfl (fun cb=>(TC.openS 0 1 rfl (by decide) (TC.draw [(0,true),(1,true),(2,true),(3,true),(4,true),(5,true),(6,true),(7,true),(8,true),(9,true),(10,true),(11,true),(12,true),(13,true),(14,true),(15,true),(16,true),(17,true),(18,true),(19,true)] [0] fc_m (by kernel_rfl) (xmp rfl (xN0 rfl (xf 17 zbC rfl ?_)))))))))
 refine xlb 0 zbq rfl rfl (xmb rfl (TL.cases rfl (fun q1=>?_) (fun q1=>?_)))
 refine xmp rfl (xN0 rfl (xf 11 zbD rfl (xf 0 zcM rfl (xf 0 zg2 rfl (xli 0 zac rfl rfl (xmp rfl (xN0 rfl (xf 11 zbD rfl ?_))))))))
 refine xf 2 zcL rfl (xf 0 zg2 rfl (xli 0 zac rfl rfl (TL.eqlV rfl rfl rfl rfl (TL.pickT (.bool _) rfl rfl rfl rfl (xab rfl (dR ?_))))))
 first | refine TQ.close 0 1 (zal 168 157 189 kb l (c)) (by decide) rfl rfl (fun _ _ _ s1 s2 hd h1 h2=>zao s1 s2 hd h1 h2) ?_
 refine FQ.ret1 (v:=(.bool _)) (Bs:=[_]) [0] rfl rfl rfl ⟨rfl,trivial⟩ ?_
 exact ⟨congrArg Value.bool (by unfold CollectS.joined; rw [q1]; rfl),rfl⟩
 refine xo rfl (xo rfl (xo rfl (xo rfl (xo rfl (xo rfl (xo rfl (xo rfl (xo rfl ?_))))))))
 refine xo rfl (xo rfl (xo rfl (xo rfl (xpF rfl (xaf rfl (dR ?_))))))
 first | refine TQ.close 0 1 (zal 168 157 189 kb l (c)) (by decide) rfl rfl (fun _ _ _ s1 s2 hd h1 h2=>zao s1 s2 hd h1 h2) ?_
 refine FQ.ret1 (v:=(.bool false)) (Bs:=[_]) [0] rfl rfl rfl ⟨rfl,trivial⟩ ?_
 exact ⟨congrArg Value.bool (by unfold CollectS.joined; rw [q1]; rfl),rfl⟩
theorem zoZ {l:Lay} (hl:l.Ok) {kb ab mb:Nat} {c:CollectS} {σ:Array UInt64} {n:Cnt} {now:Int}:FnD Tryz.prog 63 [.pointer (some ⟨kb,0,none⟩),.pointer (some ⟨ab,0,none⟩),.int .i64 now] [zal 168 157 189 kb l (c),arenaC ab mb 140 71 (σ) (n)] (.bool (c.stp l σ now).done) [zal 168 157 189 kb l (c.stp l σ now),arenaC ab mb 140 71 (σ) (c.cnt l σ n)]:=by
 refine Fn.enter (Tryz.func63) rfl rfl (fun w0 R=>?_)
 refine sA (xaf rfl (dS (TC.seq (TC.openE 0 rfl (fun cb=>(TC.openS 0 2 rfl (by decide) (TC.region (xmp rfl (xN0 rfl ?_)))))))))
 refine xf 17 zbC rfl (xlb 0 zbq rfl rfl (TL.done (TQ.then (TC.cond rfl (fun q1=>?_) (fun q1=>?_)))))
 refine sA (xat rfl (dRR ?_))
 first | refine TQ.close 0 2 (zal 168 157 189 kb l ((c.mid l σ now).over)) (by decide) rfl rfl (fun _ _ _ s1 s2 hd h1 h2=>zao s1 s2 hd h1 (by rw [CollectS.over_climb]; exact h2)) ?_ | refine TQ.close 0 2 (zal 168 157 189 kb l (⟨c.u,c.v,za4 l c.v,⟨⟨(c.climb.stp l σ).root,(c.climb.stp l σ).version⟩,c.now.v,c.now.at_⟩,c.last,true,c.done,c.rounds,IntKind.i64.wrap (c.steps+1)⟩)) (by decide) rfl rfl (fun _ _ _ s1 s2 hd h1 h2=>zao s1 s2 hd h1 h2) ?_ | refine TQ.close 0 2 (zal 168 157 189 kb l (⟨c.u,c.v,c.climb.stp l σ,c.now,c.last,c.second,c.done,c.rounds,IntKind.i64.wrap (c.steps+1)⟩)) (by decide) rfl rfl (fun _ _ _ s1 s2 hd h1 h2=>zao s1 s2 hd h1 h2) ?_ | refine TQ.close 0 2 (zal 168 157 189 kb l (c)) (by decide) rfl rfl (fun _ _ _ s1 s2 hd h1 h2=>zao s1 s2 hd h1 h2) ?_
 refine FQ.ret1 (v:=(.bool true)) (Bs:=[_,_]) [0,1] rfl rfl rfl ⟨rfl,rfl,trivial⟩ ?_
 exact ⟨by rw [CollectS.stp_d q1,q1],by rw [CollectS.stp_d q1,CollectS.cnt_d q1]⟩
 refine TC.skip (TQ.then (sA (xmp rfl (xN0 rfl (xf 19 zet rfl (xli 0 zac rfl rfl (TL.add _ rfl rfl (rfl) rfl rfl (xN0 rfl ?_))))))))
 refine xf 19 zet rfl (TL.st 0 #[_,_,_,_,_,_,_,_,_,_,_,_,_,_,_,_,_,_,_,_] (.int _ _) rfl rfl rfl rfl rfl rfl zac rfl rfl trivial (dB (xmp rfl (xN0 rfl (xf 5 zbH rfl (xlp 0 zfB rfl rfl (xmp rfl (TL.callD [2,1] [2,1] (zpg hl) ⟨rfl,rfl,trivial⟩ ⟨rfl,rfl,trivial⟩ zsn rfl rfl rfl rfl rfl trivial ?_))))))))
 refine TL.cases rfl (fun q2=>?_) (fun q2=>?_)
 refine xnt rfl (TL.done (TQ.then (TC.condF rfl (TC.skip (TQ.then (TC.seq (TC.drawT (.br [(0,true),(1,true),(2,true),(3,true),(5,true),(6,true),(7,true),(8,true)] 4 11 (.br [] 9 11 (.fin [(10,true),(11,false),(12,false)]) (.fin [(9,false),(10,true),(12,false)])) (.fin [(4,false),(9,false),(10,true),(12,false)])) [0] fc_m (by kernel_rfl) (TT.br (xmp rfl ?_)))))))))
 refine xN0 rfl (xf 5 zbH rfl (xlp 0 zfB rfl rfl (xmp rfl (xN0 rfl (xf 5 zbH rfl (xlp 0 zfB rfl rfl (TL.both ?_ ?_)))))))
 refine TL.callD [2] [2] zlh ⟨rfl,trivial⟩ ⟨rfl,trivial⟩ zpY rfl rfl rfl rfl rfl (kL1 rfl trivial) (TL.tree (TT.br (TL.both ?_ ?_)))
 refine TL.callD [2] [2] ze6 ⟨rfl,trivial⟩ ⟨rfl,trivial⟩ znw rfl rfl rfl rfl rfl (kL1 rfl trivial) (TL.tree (TT.fin (TL.bld [.int .i64 0,.int .i64 0] [(.int _ _),(.int _ _)] [_,_] zfX zki ⟨rfl,rfl,trivial⟩ ⟨rfl,rfl⟩ rfl rfl (TL.alloc 3 (cs:=#[.int .i64 0,.int .i64 0]) zfX rfl rfl rfl (fun _=>(kL1 rfl trivial)) (fun bk3=>(TL.stW 3 2 [_,_] rfl rfl rfl rfl rfl rfl za3 rfl rfl (kL1 rfl trivial) (dB (xmp rfl (xN0 rfl (xf 16 zbr rfl ?_))))))))))
 refine xlb 0 zbq rfl rfl (TL.not _ _ rfl rfl rfl rfl (TL.done (TQ.then (TC.cond rfl (fun q3=>?_) (fun q3=>?_)))))
 refine sA (xmp rfl (xmp rfl (xL2 3 za3 rfl rfl (xN0 rfl (xf 6 zaT rfl (xf 0 zcM rfl (TL.stA 0 2 #[_,_,_,_,_,_,_,_,_,_,_,_,_,_,_,_,_,_,_,_] [_,_] rfl rfl rfl rfl rfl rfl rfl za3 rfl rfl trivial (xN0 rfl ?_))))))))
 refine xf 16 zbr rfl (TL.st 0 #[_,_,_,_,_,_,_,_,_,_,_,_,_,_,_,_,_,_,_,_] (.bool true) rfl rfl rfl rfl rfl rfl zbq rfl rfl trivial (dS (TC.draw2 [(0,true),(1,true),(2,true),(3,true),(4,true),(5,true),(6,true),(7,true),(8,true),(9,false),(10,true),(11,true)] 12 [] [0] fc_m (by kernel_rfl) (xmp rfl (xmp rfl (xN0 rfl (xf 0 zcK rfl (xL3 0 zaa rfl rfl ?_))))))))
 refine xmp rfl (xN0 rfl (xf 4 ze0 rfl (xli 0 zac rfl rfl (TL.call [] [4] (ze8 hl) ⟨rfl,rfl,trivial⟩ trivial zhc rfl rfl rfl rfl ?_))))
 rintro x Bs ⟨cb,rfl,rfl⟩
 refine ⟨rfl,(kL1 rfl trivial),?_⟩
 refine xN0 rfl (xf 5 zbH rfl (TL.late (TL.st 0 #[_,_,_,_,_,_,_,_,_,_,_,_,_,_,_,_,_,_,_,_] (.pointer (some ⟨_,_,none⟩)) rfl rfl rfl rfl rfl rfl zfB rfl rfl trivial (dA (xaf rfl (dRR ?_))))))
 first | refine TQ.close 0 4 (zal 168 157 189 kb l ((c.mid l σ now).over)) (by decide) rfl rfl (fun _ _ _ s1 s2 hd h1 h2=>zao s1 s2 hd h1 (by rw [CollectS.over_climb]; exact h2)) ?_ | refine TQ.close 0 4 (zal 168 157 189 kb l (⟨c.u,c.v,za4 l c.v,⟨⟨(c.climb.stp l σ).root,(c.climb.stp l σ).version⟩,c.now.v,c.now.at_⟩,c.last,true,c.done,c.rounds,IntKind.i64.wrap (c.steps+1)⟩)) (by decide) rfl rfl (fun _ _ _ s1 s2 hd h1 h2=>zao s1 s2 hd h1 h2) ?_ | refine TQ.close 0 4 (zal 168 157 189 kb l (⟨c.u,c.v,c.climb.stp l σ,c.now,c.last,c.second,c.done,c.rounds,IntKind.i64.wrap (c.steps+1)⟩)) (by decide) rfl rfl (fun _ _ _ s1 s2 hd h1 h2=>zao s1 s2 hd h1 h2) ?_ | refine TQ.close 0 4 (zal 168 157 189 kb l (c)) (by decide) rfl rfl (fun _ _ _ s1 s2 hd h1 h2=>zao s1 s2 hd h1 h2) ?_
 refine FQ.ret1 (v:=(.bool false)) (Bs:=[_,_]) [0,1] rfl rfl rfl ⟨rfl,rfl,trivial⟩ ?_
 have d2:(c.climb.stp l σ).done=true:=by simpa using q2
 rw [CollectS.stp_b q1 d2 (by simpa using q3),CollectS.cnt_n q1]
 exact ⟨by rw [q1],rfl⟩
 refine TC.skip (TQ.then (sA (xmp rfl (xmp rfl (xmp rfl (xL2 3 za3 rfl rfl (xmi rfl (xN0 rfl ?_))))))))
 refine xf 6 zaT rfl (xf 2 zcL rfl (TL.stA 0 2 #[_,_,_,_,_,_,_,_,_,_,_,_,_,_,_,_,_,_,_,_] [_,_] rfl rfl rfl rfl rfl rfl rfl za3 rfl rfl trivial (xN0 rfl (xf 6 zaT rfl (xf 4 zd7 rfl (TL.st 0 #[_,_,_,_,_,_,_,_,_,_,_,_,_,_,_,_,_,_,_,_] (.int _ _) rfl rfl rfl rfl rfl rfl zac rfl rfl trivial (xN0 rfl (xf 16 zbr rfl ?_))))))))
 refine TL.st 0 #[_,_,_,_,_,_,_,_,_,_,_,_,_,_,_,_,_,_,_,_] (.bool false) rfl rfl rfl rfl rfl rfl zbq rfl rfl trivial (dS (TC.draw2 [(0,true),(1,true),(2,true),(3,true),(4,true),(5,true),(6,true),(7,true),(8,true),(9,false),(10,true),(11,true)] 12 [] [0] fc_m (by kernel_rfl) (xmp rfl (xmp rfl (xN0 rfl (xf 0 zcK rfl (xL3 0 zaa rfl rfl (xmp rfl ?_))))))))
 refine xN0 rfl (xf 3 ze1 rfl (xli 0 zac rfl rfl (TL.call [] [5] (ze8 hl) ⟨rfl,rfl,trivial⟩ trivial zhc rfl rfl rfl rfl ?_)))
 rintro x Bs ⟨cb,rfl,rfl⟩
 refine ⟨rfl,(kL1 rfl trivial),?_⟩
 refine xN0 rfl (xf 5 zbH rfl (TL.late (TL.st 0 #[_,_,_,_,_,_,_,_,_,_,_,_,_,_,_,_,_,_,_,_] (.pointer (some ⟨_,_,none⟩)) rfl rfl rfl rfl rfl rfl zfB rfl rfl trivial (dS (TC.conseq 0 (B:=zee 168 kb _ l (c.mid l σ now)) rfl (fun _ h=>h) (TC.region (xmp rfl (TL.callD [0] [0] ziw ⟨rfl,trivial⟩ ⟨rfl,trivial⟩ zky rfl rfl rfl rfl rfl trivial ?_))))))))
 refine dA (xmp rfl (xN0 rfl (xf 17 zbC rfl (xlb 0 zbq rfl rfl (xab rfl (dR ?_))))))
 first | refine TQ.close 0 5 (zal 168 157 189 kb l ((c.mid l σ now).over)) (by decide) rfl rfl (fun _ _ _ s1 s2 hd h1 h2=>zao s1 s2 hd h1 (by rw [CollectS.over_climb]; exact h2)) ?_ | refine TQ.close 0 5 (zal 168 157 189 kb l (⟨c.u,c.v,za4 l c.v,⟨⟨(c.climb.stp l σ).root,(c.climb.stp l σ).version⟩,c.now.v,c.now.at_⟩,c.last,true,c.done,c.rounds,IntKind.i64.wrap (c.steps+1)⟩)) (by decide) rfl rfl (fun _ _ _ s1 s2 hd h1 h2=>zao s1 s2 hd h1 h2) ?_ | refine TQ.close 0 5 (zal 168 157 189 kb l (⟨c.u,c.v,c.climb.stp l σ,c.now,c.last,c.second,c.done,c.rounds,IntKind.i64.wrap (c.steps+1)⟩)) (by decide) rfl rfl (fun _ _ _ s1 s2 hd h1 h2=>zao s1 s2 hd h1 h2) ?_ | refine TQ.close 0 5 (zal 168 157 189 kb l (c)) (by decide) rfl rfl (fun _ _ _ s1 s2 hd h1 h2=>zao s1 s2 hd h1 h2) ?_
 refine FQ.ret1 (v:=(.bool _)) (Bs:=[_,_]) [0,1] rfl rfl rfl ⟨rfl,rfl,trivial⟩ ?_
 have d2:(c.climb.stp l σ).done=true:=by simpa using q2
 rw [CollectS.stp_c q1 d2 (by simpa using q3),CollectS.cnt_n q1]
 exact ⟨rfl,rfl⟩
 refine TL.alloc 6 (cs:=#[.int .i64 0,.int .i64 0]) zfX rfl rfl rfl (fun _=>(kL1 rfl trivial)) (fun bk6=>(TL.tree (TT.fin (TL.callD [2] [2] ze6 ⟨rfl,trivial⟩ ⟨rfl,trivial⟩ znw rfl rfl rfl rfl rfl (kL1 rfl trivial) (TL.bld [.int .i64 0,.int .i64 0] [(.int _ _),(.int _ _)] [_,_] zfX zki ⟨rfl,rfl,trivial⟩ ⟨rfl,rfl⟩ rfl rfl (TL.stW 6 2 [_,_] rfl rfl rfl rfl rfl rfl za3 rfl rfl (kL1 rfl trivial) (dB (xmp rfl (xN0 rfl (xf 16 zbr rfl ?_))))))))))
 refine xlb 0 zbq rfl rfl (TL.not _ _ rfl rfl rfl rfl (TL.done (TQ.then (TC.cond rfl (fun q3=>?_) (fun q3=>?_)))))
 refine sA (xmp rfl (xmp rfl (xL2 6 za3 rfl rfl (xN0 rfl (xf 6 zaT rfl (xf 0 zcM rfl (TL.stA 0 2 #[_,_,_,_,_,_,_,_,_,_,_,_,_,_,_,_,_,_,_,_] [_,_] rfl rfl rfl rfl rfl rfl rfl za3 rfl rfl trivial (xN0 rfl ?_))))))))
 refine xf 16 zbr rfl (TL.st 0 #[_,_,_,_,_,_,_,_,_,_,_,_,_,_,_,_,_,_,_,_] (.bool true) rfl rfl rfl rfl rfl rfl zbq rfl rfl trivial (dS (TC.draw2 [(0,true),(1,true),(2,true),(3,true),(4,true),(5,true),(6,true),(7,true),(8,true),(9,false),(10,true),(11,true)] 12 [] [0] fc_m (by kernel_rfl) (xmp rfl (xmp rfl (xN0 rfl (xf 0 zcK rfl (xL3 0 zaa rfl rfl ?_))))))))
 refine xmp rfl (xN0 rfl (xf 4 ze0 rfl (xli 0 zac rfl rfl (TL.call [] [7] (ze8 hl) ⟨rfl,rfl,trivial⟩ trivial zhc rfl rfl rfl rfl ?_))))
 rintro x Bs ⟨cb,rfl,rfl⟩
 refine ⟨rfl,(kL1 rfl trivial),?_⟩
 refine xN0 rfl (xf 5 zbH rfl (TL.late (TL.st 0 #[_,_,_,_,_,_,_,_,_,_,_,_,_,_,_,_,_,_,_,_] (.pointer (some ⟨_,_,none⟩)) rfl rfl rfl rfl rfl rfl zfB rfl rfl trivial (dA (xaf rfl (dRR ?_))))))
 first | refine TQ.close 0 7 (zal 168 157 189 kb l ((c.mid l σ now).over)) (by decide) rfl rfl (fun _ _ _ s1 s2 hd h1 h2=>zao s1 s2 hd h1 (by rw [CollectS.over_climb]; exact h2)) ?_ | refine TQ.close 0 7 (zal 168 157 189 kb l (⟨c.u,c.v,za4 l c.v,⟨⟨(c.climb.stp l σ).root,(c.climb.stp l σ).version⟩,c.now.v,c.now.at_⟩,c.last,true,c.done,c.rounds,IntKind.i64.wrap (c.steps+1)⟩)) (by decide) rfl rfl (fun _ _ _ s1 s2 hd h1 h2=>zao s1 s2 hd h1 h2) ?_ | refine TQ.close 0 7 (zal 168 157 189 kb l (⟨c.u,c.v,c.climb.stp l σ,c.now,c.last,c.second,c.done,c.rounds,IntKind.i64.wrap (c.steps+1)⟩)) (by decide) rfl rfl (fun _ _ _ s1 s2 hd h1 h2=>zao s1 s2 hd h1 h2) ?_ | refine TQ.close 0 7 (zal 168 157 189 kb l (c)) (by decide) rfl rfl (fun _ _ _ s1 s2 hd h1 h2=>zao s1 s2 hd h1 h2) ?_
 refine FQ.ret1 (v:=(.bool false)) (Bs:=[_,_]) [0,1] rfl rfl rfl ⟨rfl,rfl,trivial⟩ ?_
 have d2:(c.climb.stp l σ).done=true:=by simpa using q2
 rw [CollectS.stp_b q1 d2 (by simpa using q3),CollectS.cnt_n q1]
 exact ⟨by rw [q1],rfl⟩
 refine TC.skip (TQ.then (sA (xmp rfl (xmp rfl (xmp rfl (xL2 6 za3 rfl rfl (xmi rfl (xN0 rfl ?_))))))))
 refine xf 6 zaT rfl (xf 2 zcL rfl (TL.stA 0 2 #[_,_,_,_,_,_,_,_,_,_,_,_,_,_,_,_,_,_,_,_] [_,_] rfl rfl rfl rfl rfl rfl rfl za3 rfl rfl trivial (xN0 rfl (xf 6 zaT rfl (xf 4 zd7 rfl (TL.st 0 #[_,_,_,_,_,_,_,_,_,_,_,_,_,_,_,_,_,_,_,_] (.int _ _) rfl rfl rfl rfl rfl rfl zac rfl rfl trivial (xN0 rfl (xf 16 zbr rfl ?_))))))))
 refine TL.st 0 #[_,_,_,_,_,_,_,_,_,_,_,_,_,_,_,_,_,_,_,_] (.bool false) rfl rfl rfl rfl rfl rfl zbq rfl rfl trivial (dS (TC.draw2 [(0,true),(1,true),(2,true),(3,true),(4,true),(5,true),(6,true),(7,true),(8,true),(9,false),(10,true),(11,true)] 12 [] [0] fc_m (by kernel_rfl) (xmp rfl (xmp rfl (xN0 rfl (xf 0 zcK rfl (xL3 0 zaa rfl rfl (xmp rfl ?_))))))))
 refine xN0 rfl (xf 3 ze1 rfl (xli 0 zac rfl rfl (TL.call [] [8] (ze8 hl) ⟨rfl,rfl,trivial⟩ trivial zhc rfl rfl rfl rfl ?_)))
 rintro x Bs ⟨cb,rfl,rfl⟩
 refine ⟨rfl,(kL1 rfl trivial),?_⟩
 refine xN0 rfl (xf 5 zbH rfl (TL.late (TL.st 0 #[_,_,_,_,_,_,_,_,_,_,_,_,_,_,_,_,_,_,_,_] (.pointer (some ⟨_,_,none⟩)) rfl rfl rfl rfl rfl rfl zfB rfl rfl trivial (dS (TC.conseq 0 (B:=zee 168 kb _ l (c.mid l σ now)) rfl (fun _ h=>h) (TC.region (xmp rfl (TL.callD [0] [0] ziw ⟨rfl,trivial⟩ ⟨rfl,trivial⟩ zky rfl rfl rfl rfl rfl trivial ?_))))))))
 refine dA (xmp rfl (xN0 rfl (xf 17 zbC rfl (xlb 0 zbq rfl rfl (xab rfl (dR ?_))))))
 first | refine TQ.close 0 8 (zal 168 157 189 kb l ((c.mid l σ now).over)) (by decide) rfl rfl (fun _ _ _ s1 s2 hd h1 h2=>zao s1 s2 hd h1 (by rw [CollectS.over_climb]; exact h2)) ?_ | refine TQ.close 0 8 (zal 168 157 189 kb l (⟨c.u,c.v,za4 l c.v,⟨⟨(c.climb.stp l σ).root,(c.climb.stp l σ).version⟩,c.now.v,c.now.at_⟩,c.last,true,c.done,c.rounds,IntKind.i64.wrap (c.steps+1)⟩)) (by decide) rfl rfl (fun _ _ _ s1 s2 hd h1 h2=>zao s1 s2 hd h1 h2) ?_ | refine TQ.close 0 8 (zal 168 157 189 kb l (⟨c.u,c.v,c.climb.stp l σ,c.now,c.last,c.second,c.done,c.rounds,IntKind.i64.wrap (c.steps+1)⟩)) (by decide) rfl rfl (fun _ _ _ s1 s2 hd h1 h2=>zao s1 s2 hd h1 h2) ?_ | refine TQ.close 0 8 (zal 168 157 189 kb l (c)) (by decide) rfl rfl (fun _ _ _ s1 s2 hd h1 h2=>zao s1 s2 hd h1 h2) ?_
 refine FQ.ret1 (v:=(.bool _)) (Bs:=[_,_]) [0,1] rfl rfl rfl ⟨rfl,rfl,trivial⟩ ?_
 have d2:(c.climb.stp l σ).done=true:=by simpa using q2
 rw [CollectS.stp_c q1 d2 (by simpa using q3),CollectS.cnt_n q1]
 exact ⟨rfl,rfl⟩
 refine TL.alloc 9 (cs:=#[.int .i64 0,.int .i64 0]) zfX rfl rfl rfl (fun _=>(kL1 rfl trivial)) (fun bk9=>(TL.tree (TT.fin (TL.callD [2] [2] zlh ⟨rfl,trivial⟩ ⟨rfl,trivial⟩ zpY rfl rfl rfl rfl rfl (kL1 rfl trivial) (TL.callD [2] [2] ze6 ⟨rfl,trivial⟩ ⟨rfl,trivial⟩ znw rfl rfl rfl rfl rfl (kL1 rfl trivial) (TL.bld [.int .i64 0,.int .i64 0] [(.int _ _),(.int _ _)] [_,_] zfX zki ⟨rfl,rfl,trivial⟩ ⟨rfl,rfl⟩ rfl rfl (TL.stW 9 2 [_,_] rfl rfl rfl rfl rfl rfl za3 rfl rfl (kL1 rfl trivial) (dB (xmp rfl (xN0 rfl ?_))))))))))
 refine xf 16 zbr rfl (xlb 0 zbq rfl rfl (TL.not _ _ rfl rfl rfl rfl (TL.done (TQ.then (TC.cond rfl (fun q3=>?_) (fun q3=>?_))))))
 refine sA (xmp rfl (xmp rfl (xL2 9 za3 rfl rfl (xN0 rfl (xf 6 zaT rfl (xf 0 zcM rfl (TL.stA 0 2 #[_,_,_,_,_,_,_,_,_,_,_,_,_,_,_,_,_,_,_,_] [_,_] rfl rfl rfl rfl rfl rfl rfl za3 rfl rfl trivial (xN0 rfl ?_))))))))
 refine xf 16 zbr rfl (TL.st 0 #[_,_,_,_,_,_,_,_,_,_,_,_,_,_,_,_,_,_,_,_] (.bool true) rfl rfl rfl rfl rfl rfl zbq rfl rfl trivial (dS (TC.draw2 [(0,true),(1,true),(2,true),(3,true),(4,true),(5,true),(6,true),(7,true),(8,true),(9,false),(10,true),(11,true)] 12 [] [0] fc_m (by kernel_rfl) (xmp rfl (xmp rfl (xN0 rfl (xf 0 zcK rfl (xL3 0 zaa rfl rfl ?_))))))))
 refine xmp rfl (xN0 rfl (xf 4 ze0 rfl (xli 0 zac rfl rfl (TL.call [] [10] (ze8 hl) ⟨rfl,rfl,trivial⟩ trivial zhc rfl rfl rfl rfl ?_))))
 rintro x Bs ⟨cb,rfl,rfl⟩
 refine ⟨rfl,(kL1 rfl trivial),?_⟩
 refine xN0 rfl (xf 5 zbH rfl (TL.late (TL.st 0 #[_,_,_,_,_,_,_,_,_,_,_,_,_,_,_,_,_,_,_,_] (.pointer (some ⟨_,_,none⟩)) rfl rfl rfl rfl rfl rfl zfB rfl rfl trivial (dA (xaf rfl (dRR ?_))))))
 first | refine TQ.close 0 10 (zal 168 157 189 kb l ((c.mid l σ now).over)) (by decide) rfl rfl (fun _ _ _ s1 s2 hd h1 h2=>zao s1 s2 hd h1 (by rw [CollectS.over_climb]; exact h2)) ?_ | refine TQ.close 0 10 (zal 168 157 189 kb l (⟨c.u,c.v,za4 l c.v,⟨⟨(c.climb.stp l σ).root,(c.climb.stp l σ).version⟩,c.now.v,c.now.at_⟩,c.last,true,c.done,c.rounds,IntKind.i64.wrap (c.steps+1)⟩)) (by decide) rfl rfl (fun _ _ _ s1 s2 hd h1 h2=>zao s1 s2 hd h1 h2) ?_ | refine TQ.close 0 10 (zal 168 157 189 kb l (⟨c.u,c.v,c.climb.stp l σ,c.now,c.last,c.second,c.done,c.rounds,IntKind.i64.wrap (c.steps+1)⟩)) (by decide) rfl rfl (fun _ _ _ s1 s2 hd h1 h2=>zao s1 s2 hd h1 h2) ?_ | refine TQ.close 0 10 (zal 168 157 189 kb l (c)) (by decide) rfl rfl (fun _ _ _ s1 s2 hd h1 h2=>zao s1 s2 hd h1 h2) ?_
 refine FQ.ret1 (v:=(.bool false)) (Bs:=[_,_]) [0,1] rfl rfl rfl ⟨rfl,rfl,trivial⟩ ?_
 have d2:(c.climb.stp l σ).done=true:=by simpa using q2
 rw [CollectS.stp_b q1 d2 (by simpa using q3),CollectS.cnt_n q1]
 exact ⟨by rw [q1],rfl⟩
 refine TC.skip (TQ.then (sA (xmp rfl (xmp rfl (xmp rfl (xL2 9 za3 rfl rfl (xmi rfl (xN0 rfl ?_))))))))
 refine xf 6 zaT rfl (xf 2 zcL rfl (TL.stA 0 2 #[_,_,_,_,_,_,_,_,_,_,_,_,_,_,_,_,_,_,_,_] [_,_] rfl rfl rfl rfl rfl rfl rfl za3 rfl rfl trivial (xN0 rfl (xf 6 zaT rfl (xf 4 zd7 rfl (TL.st 0 #[_,_,_,_,_,_,_,_,_,_,_,_,_,_,_,_,_,_,_,_] (.int _ _) rfl rfl rfl rfl rfl rfl zac rfl rfl trivial (xN0 rfl (xf 16 zbr rfl ?_))))))))
 refine TL.st 0 #[_,_,_,_,_,_,_,_,_,_,_,_,_,_,_,_,_,_,_,_] (.bool false) rfl rfl rfl rfl rfl rfl zbq rfl rfl trivial (dS (TC.draw2 [(0,true),(1,true),(2,true),(3,true),(4,true),(5,true),(6,true),(7,true),(8,true),(9,false),(10,true),(11,true)] 12 [] [0] fc_m (by kernel_rfl) (xmp rfl (xmp rfl (xN0 rfl (xf 0 zcK rfl (xL3 0 zaa rfl rfl (xmp rfl ?_))))))))
 refine xN0 rfl (xf 3 ze1 rfl (xli 0 zac rfl rfl (TL.call [] [11] (ze8 hl) ⟨rfl,rfl,trivial⟩ trivial zhc rfl rfl rfl rfl ?_)))
 rintro x Bs ⟨cb,rfl,rfl⟩
 refine ⟨rfl,(kL1 rfl trivial),?_⟩
 refine xN0 rfl (xf 5 zbH rfl (TL.late (TL.st 0 #[_,_,_,_,_,_,_,_,_,_,_,_,_,_,_,_,_,_,_,_] (.pointer (some ⟨_,_,none⟩)) rfl rfl rfl rfl rfl rfl zfB rfl rfl trivial (dS (TC.conseq 0 (B:=zee 168 kb _ l (c.mid l σ now)) rfl (fun _ h=>h) (TC.region (xmp rfl (TL.callD [0] [0] ziw ⟨rfl,trivial⟩ ⟨rfl,trivial⟩ zky rfl rfl rfl rfl rfl trivial ?_))))))))
 refine dA (xmp rfl (xN0 rfl (xf 17 zbC rfl (xlb 0 zbq rfl rfl (xab rfl (dR ?_))))))
 first | refine TQ.close 0 11 (zal 168 157 189 kb l ((c.mid l σ now).over)) (by decide) rfl rfl (fun _ _ _ s1 s2 hd h1 h2=>zao s1 s2 hd h1 (by rw [CollectS.over_climb]; exact h2)) ?_ | refine TQ.close 0 11 (zal 168 157 189 kb l (⟨c.u,c.v,za4 l c.v,⟨⟨(c.climb.stp l σ).root,(c.climb.stp l σ).version⟩,c.now.v,c.now.at_⟩,c.last,true,c.done,c.rounds,IntKind.i64.wrap (c.steps+1)⟩)) (by decide) rfl rfl (fun _ _ _ s1 s2 hd h1 h2=>zao s1 s2 hd h1 h2) ?_ | refine TQ.close 0 11 (zal 168 157 189 kb l (⟨c.u,c.v,c.climb.stp l σ,c.now,c.last,c.second,c.done,c.rounds,IntKind.i64.wrap (c.steps+1)⟩)) (by decide) rfl rfl (fun _ _ _ s1 s2 hd h1 h2=>zao s1 s2 hd h1 h2) ?_ | refine TQ.close 0 11 (zal 168 157 189 kb l (c)) (by decide) rfl rfl (fun _ _ _ s1 s2 hd h1 h2=>zao s1 s2 hd h1 h2) ?_
 refine FQ.ret1 (v:=(.bool _)) (Bs:=[_,_]) [0,1] rfl rfl rfl ⟨rfl,rfl,trivial⟩ ?_
 have d2:(c.climb.stp l σ).done=true:=by simpa using q2
 rw [CollectS.stp_c q1 d2 (by simpa using q3),CollectS.cnt_n q1]
 exact ⟨rfl,rfl⟩
 refine xnf rfl (dT rfl (xaf rfl (dRR ?_)))
 first | refine TQ.close 0 2 (zal 168 157 189 kb l ((c.mid l σ now).over)) (by decide) rfl rfl (fun _ _ _ s1 s2 hd h1 h2=>zao s1 s2 hd h1 (by rw [CollectS.over_climb]; exact h2)) ?_ | refine TQ.close 0 2 (zal 168 157 189 kb l (⟨c.u,c.v,za4 l c.v,⟨⟨(c.climb.stp l σ).root,(c.climb.stp l σ).version⟩,c.now.v,c.now.at_⟩,c.last,true,c.done,c.rounds,IntKind.i64.wrap (c.steps+1)⟩)) (by decide) rfl rfl (fun _ _ _ s1 s2 hd h1 h2=>zao s1 s2 hd h1 h2) ?_ | refine TQ.close 0 2 (zal 168 157 189 kb l (⟨c.u,c.v,c.climb.stp l σ,c.now,c.last,c.second,c.done,c.rounds,IntKind.i64.wrap (c.steps+1)⟩)) (by decide) rfl rfl (fun _ _ _ s1 s2 hd h1 h2=>zao s1 s2 hd h1 h2) ?_ | refine TQ.close 0 2 (zal 168 157 189 kb l (c)) (by decide) rfl rfl (fun _ _ _ s1 s2 hd h1 h2=>zao s1 s2 hd h1 h2) ?_
 refine FQ.ret1 (v:=(.bool false)) (Bs:=[_,_]) [0,1] rfl rfl rfl ⟨rfl,rfl,trivial⟩ ?_
 have d2:(c.climb.stp l σ).done=false:=by simpa using q2
 rw [CollectS.stp_a q1 d2,CollectS.cnt_n q1]
 exact ⟨by rw [q1],rfl⟩
theorem zbM {l:Lay} (hl:l.Ok) {pb ab mb:Nat} {σ:Array UInt64} {p:Pen} {g:G} {k:Int} (hE:EdgeOk l σ g):FnD Tryz.prog 105 [.pointer (some ⟨pb,0,none⟩),adjV l 88 (.agg #[.pointer (some ⟨ab,0,none⟩)]) p] [pt pb (.cells #[.int .i64 l.V,.int .i64 l.S,.int .i64 l.T,.pointer (some ⟨ab,0,none⟩),.int .i64 k] 117),zaj ab mb 140 71 (σ)] (.int .i64 ((GA.of g).free l)) [pt pb (.cells #[.int .i64 l.V,.int .i64 l.S,.int .i64 l.T,.pointer (some ⟨ab,0,none⟩),.int .i64 k] 117),zaj ab mb 140 71 (σ)]:=by
 have hb:=zeX hl
 refine Fn.enter (Tryz.func105) rfl rfl (fun w0 R=>?_)
 refine sA (xB 2 rfl (fun bk2=>(xai rfl (dA (xmp rfl (xN0 rfl (xf 0 zab rfl (xf 1 zby rfl (xli 0 zac rfl rfl ?_)))))))))
 refine TL.mkO 3 (enc:=encB) (N:=l.S) (false) rfl rfl zhU zr3 rfl (by decide) (by omega) rfl rfl (fun bk3=>⟨trivial,?_⟩)
 refine xas rfl (dB (xf 0 zaE rfl (xf 0 zan rfl (xf 6 zas rfl (xL4 2 zaP rfl rfl (TL.call [1] [1,4] (zrr hl) ⟨rfl,trivial⟩ ⟨rfl,trivial⟩ zrl rfl rfl rfl rfl ?_))))))
 rintro x Bs ⟨d,rfl,hdz,hdA⟩
 refine ⟨rfl,trivial,?_⟩
 refine TL.ownW 4 rfl (fun a9 g9 c9 hv9 hc9 ha9=>?_)
 subst hv9
 refine xz zfZ rfl (xmi rfl (dK (TC.loopK (X:=Nat×Array Bool) [4,5,20,21] [0,1,2,4] (fun ⟨k,D⟩=>[(22,.int .i64 ((k:Nat):Int))]) (fun ⟨k,D⟩=>[(3,ownA encB 1 4 (.slice (some ⟨bk3,0,none⟩) l.S l.S) D)]) (fun ⟨k,D⟩=>(k≤d.size∧D.size=l.S)∧UsB d k D) (fun ⟨k,D⟩=>d.size - k) ((0,Array.replicate l.S false)) ⟨⟨Nat.zero_le _,by simp⟩,UsB.start⟩ ⟨rfl,trivial⟩ ⟨rfl,trivial⟩ (fun y hI=>?_))))
 obtain ⟨k,D⟩:=y
 obtain ⟨⟨hk,hDz⟩,hU⟩:=hI
 replace hk:k≤d.size:=hk
 replace hDz:D.size=l.S:=hDz
 replace hU:UsB d k D:=hU
 refine TC.sub (env':=[(22,_),(4,_),(5,_),(20,_),(21,_)]) (L':=[(3,_),(0,_),(1,_),(2,_),(4,_)]) ⟨rfl,rfl,rfl,rfl,rfl,trivial⟩ ⟨rfl,rfl,rfl,rfl,rfl,trivial⟩ (sA (TL.lss rfl rfl rfl rfl (fun q1=>?_) (fun q1=>?_)))
 refine dS (TC.condT rfl (TC.skip (TQ.then (TC.seq (TC.block (TC.seq ?_))))))
 obtain ⟨s,hs,hsl⟩:=hdA.slot hl hE (k:=k) (by omega)
 refine TC.region (TL.iaO rfl ha9 rfl zfZ (by omega) rfl rfl (TL.ldRS 4 (.int .i64 (s:Int)) rfl rfl (zgQ ha9) (by omega) (by rw [←hs]; rfl) zac rfl rfl (xai rfl (dG (xms rfl (xmi rfl (TL.iaO rfl (fun _=>rfl) rfl zcH (by omega) rfl rfl (TL.stOF 3 (o:=0) (i:=s) (cur:=D[s]!) (u:=true) (by omega) rfl rfl rfl rfl (by omega) (rfl) ⟨rfl,rfl⟩ rfl zbq rfl rfl trivial ?_))))))))
 refine dI (TL.add (((k+1:Nat):Int)) rfl rfl (wrN (by omega)) rfl rfl (xmi rfl (TL.done (TQ.roundK ((k+1,_)) ⟨⟨⟨(show k+1≤d.size by omega),(show (D.setIfInBounds _ _).size=l.S by simp; omega)⟩,hU.step hs⟩,(show d.size - (k+1)<d.size - k by omega)⟩ ⟨rfl,trivial⟩ ⟨rfl,trivial⟩ (kE4 rfl rfl rfl rfl trivial) (kL4 rfl rfl rfl rfl trivial)))))
 refine dS (TC.condF rfl (TC.exit (TQ.thenExit (TQ.thenExit (TQ.blockHere (TQ.then (TC.seq (TC.seq ?_))))))))
 obtain rfl:k=d.size:=by omega
 refine TC.region (xms rfl (xz zcH rfl (xmi rfl (dK (TC.loopK (X:=Nat) [30,31] [0,1,2,3,4] (fun s=>[(32,.int .i64 ((s:Nat):Int))]) (fun s=>[]) (fun s=>s≤l.S∧∀ j,j<s→D[j]! =true) (fun s=>l.S - s) (0) ⟨Nat.zero_le _,fun j hj=>absurd hj (Nat.not_lt_zero _)⟩ ⟨rfl,trivial⟩ trivial (fun s hI=>?_))))))
 obtain ⟨hs,hj⟩:=hI
 refine TC.sub (env':=[(32,_),(30,_),(31,_)]) (L':=[(0,_),(1,_),(2,_),(3,_),(4,_)]) ⟨rfl,rfl,rfl,trivial⟩ ⟨rfl,rfl,rfl,rfl,rfl,trivial⟩ (sA (TL.lss rfl rfl rfl rfl (fun q2=>?_) (fun q2=>?_)))
 refine dS (TC.condT rfl (TC.skip (TQ.then (TC.seq (TC.block (sA (xmi rfl (TL.iaO rfl (fun _=>rfl) rfl zcH (by omega) rfl rfl ?_))))))))
 refine TL.ldRS 3 (.bool _) rfl rfl (zoT (by omega)) (by omega) (rfl) zbq rfl rfl (xai rfl (xab rfl (dA (xmb rfl (TL.cases rfl (fun q3=>?_) (fun q3=>?_))))))
 refine xnt rfl (TL.done (TQ.then (TC.condF rfl (TC.skip (TQ.inBlock (TQ.then (TC.region (TL.add (((s+1:Nat):Int)) rfl rfl (wrN (by omega)) rfl rfl ?_))))))))
 refine xmi rfl (TL.done (TQ.roundK (s+1) ⟨⟨by omega,fun j hjs=>by by_cases he:j=s; subst he; assumption; exact hj j (by omega)⟩,by omega⟩ ⟨rfl,trivial⟩ trivial (kE2 rfl rfl trivial) (kL5 rfl rfl rfl rfl rfl trivial)))
 refine xnf rfl (dT rfl (xmi rfl (xai rfl (dR (TQ.blockRet (TQ.thenRet (TQ.thenRet (TQ.blockRet ?_))))))))
 refine TQ.thenRet ?_
 refine FQ.ret1 (v:=(.int _ _)) (Bs:=[_,_]) [0,1] rfl rfl rfl ⟨rfl,rfl,trivial⟩ ?_
 exact ⟨iE (hU.free_at hl hE hdA hDz (s:=s) (by omega) (by assumption) hj).symm,rfl⟩
 refine dS (TC.condF rfl (TC.exit (TQ.thenExit (TQ.thenExit (TQ.blockHere (TQ.then (sA (xai rfl ?_))))))))
 refine dR ?_
 refine FQ.ret1 (v:=(.int _ _)) (Bs:=[_,_]) [0,1] rfl rfl rfl ⟨rfl,rfl,trivial⟩ ?_
 exact ⟨iE (hU.free_no hl hE hdA hDz (fun j h=>hj j (by omega))).symm,rfl⟩
end Go.Proofs.YtjnpjkfliochbaaGreat
