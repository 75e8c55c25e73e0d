import Derived.Test.YtjnpjkfliochbaaGreatConA
set_option linter.unusedVariables false
set_option linter.unusedSimpArgs false
set_option maxRecDepth 20000
namespace Go.Proofs.YtjnpjkfliochbaaGreat
open Go.Eng Go.Tm
theorem zoY {S:Type} [MemLike S] {mt:TypeId} {mv:Value} {A:S→Assn} (hM:MemI Tryz.prog mt mv A) {fS:FuncId} (hfS:zf8 Tryz.prog mt "Store" fS=true) {l:Lay} (hl:l.Ok) {σ:S}:FnD Tryz.prog 93 [.iface mt mv,layV l] [A σ] (.tuple #[]) [A (zf6 l σ)]:=by
 have hb:=za3 hl
 refine Fn.enter (Tryz.func93) rfl rfl (fun w0 R=>?_)
 refine sA (xB 1 rfl (fun bk1=>(dB (xf 1 zbl rfl (xli 1 zae rfl rfl (xmi rfl (dK (TC.loopK (X:=Nat) [0,3,6] [1] (fun s=>[(7,.int .i64 ((s:Nat):Int))]) (fun s=>[(0,A (zdr l s σ))]) (fun s=>s≤l.S) (fun s=>l.S - s) (0) (Nat.zero_le _) ⟨rfl,trivial⟩ ⟨rfl,trivial⟩ (fun s hI=>(TC.sub (env':=[(7,_),(0,_),(3,_),(6,_)]) (L':=[(0,_),(1,_)]) ⟨rfl,rfl,rfl,rfl,trivial⟩ ⟨rfl,rfl,trivial⟩ ?_))))))))))
 refine sA (TL.lss rfl rfl rfl rfl (fun q1=>?_) (fun q1=>?_))
 refine dS (TC.condT rfl (TC.skip (TQ.then (TC.seq (TC.block (sA (xmi rfl (xai rfl ?_))))))))
 refine TL.done (TQ.then (TC.draw [(0,true),(1,true),(2,true),(4,true),(5,true),(6,true),(7,true),(8,true),(9,true),(3,false),(10,false)] [1] fc_m (by kernel_rfl) (xmc rfl (xL3 1 zaa rfl rfl (xmi rfl (xmi rfl (TL.add _ rfl rfl (wr64 (by omega)) rfl rfl (TL.conv _ rfl zeM zaX (zoR (by omega)) rfl rfl ?_))))))))
 refine TL.mf (xs:=[_]) (ys:=[]) [_] [] ⟨rfl,trivial⟩ trivial rfl rfl (TL.ncM hfS rfl rfl rfl (xmc rfl (TL.callD [] [] (zkZ hl) ⟨rfl,rfl,trivial⟩ trivial zn6 rfl rfl rfl rfl rfl (kL1 rfl trivial) (TL.mstore 0 hM rfl rfl rfl (by first | decide | omega) rfl rfl rfl (kL1 rfl trivial) (dI (TL.add (((s+1:Nat):Int)) rfl rfl (wrN (by omega)) rfl rfl (xmi rfl (TL.done ?_))))))))
 refine TQ.roundK (s+1) ⟨(by omega),(by omega)⟩ ⟨rfl,trivial⟩ ⟨rfl,trivial⟩ (kE3 rfl rfl rfl trivial) (kL1 rfl trivial)
 refine dS (TC.condF rfl (TC.exit (TQ.thenExit (TQ.thenExit (TQ.blockHere (TQ.then (sB (xf 1 zbl rfl ?_))))))))
 refine xli 1 zae rfl rfl (TL.eql rfl rfl rfl rfl (fun q2=>?_) (fun q2=>?_))
 refine TL.done (TQ.then (TC.condT rfl (TC.seq (TC.draw [(0,true),(1,true),(3,true),(4,true),(5,true),(2,false),(6,false)] [1] fc_m (by kernel_rfl) (xmc rfl (xL3 1 zaa rfl rfl (TL.mf (xs:=[_]) (ys:=[]) [_] [] ⟨rfl,trivial⟩ trivial rfl rfl (TL.ncM hfS rfl rfl rfl ?_))))))))
 refine xmc rfl (TL.callD [] [] (zim hl) ⟨rfl,trivial⟩ trivial ziw rfl rfl rfl rfl rfl (kL1 rfl trivial) (TL.mstore 0 hM rfl rfl rfl (by first | decide | omega) rfl rfl rfl (kL1 rfl trivial) (dRR ?_)))
 refine FQ.ret0 (Bs:=[A _]) [0] rfl rfl ⟨rfl,trivial⟩ ?_
 obtain rfl:s=l.S:=by omega
 have e0:l.S=0:=by omega
 exact ⟨rfl,by rw [zqW e0,e0,zdr]⟩
 refine TL.done (TQ.then (TC.condF rfl (TC.skip (TQ.then (TC.seq (TC.draw [(0,true),(1,true),(2,true),(3,true),(4,true),(6,true),(7,true),(8,true),(5,false),(9,false)] [1] fc_m (by kernel_rfl) (xmc rfl (xL3 1 zaa rfl rfl ?_))))))))
 refine xf 1 zbl rfl (xli 1 zae rfl rfl (TL.sub _ rfl rfl (wr64 (by omega)) rfl rfl (TL.mf (xs:=[_]) (ys:=[]) [_] [] ⟨rfl,trivial⟩ trivial rfl rfl (TL.ncM hfS rfl rfl rfl (xmc rfl (TL.callD [] [] (zkZ hl) ⟨rfl,rfl,trivial⟩ trivial zn6 rfl rfl rfl rfl rfl (kL1 rfl trivial) (TL.mstore 0 hM rfl rfl rfl (by first | decide | omega) rfl rfl rfl (kL1 rfl trivial) (TL.done ?_))))))))
 refine TQ.then (TC.draw [(0,true),(1,true),(3,true),(4,true),(5,true),(2,false),(6,false)] [1] fc_m (by kernel_rfl) (xmc rfl (xL3 1 zaa rfl rfl (TL.mf (xs:=[_]) (ys:=[]) [_] [] ⟨rfl,trivial⟩ trivial rfl rfl (TL.ncM hfS rfl rfl rfl (xmc rfl (TL.callD [] [] (zim hl) ⟨rfl,trivial⟩ trivial ziw rfl rfl rfl rfl rfl (kL1 rfl trivial) (TL.mstore 0 hM rfl rfl rfl (by first | decide | omega) rfl rfl rfl (kL1 rfl trivial) ?_))))))))
 refine TL.done ?_
 refine FQ.end0 (Bs:=[A _]) [0] rfl rfl ⟨rfl,trivial⟩ ?_
 obtain rfl:s=l.S:=by omega
 exact ⟨rfl,by rw [zqV (by omega)]⟩
theorem zgl {S:Type} [MemLike S] {mt:TypeId} {mv:Value} {A:S→Assn} (hM:MemI Tryz.prog mt mv A) {l:Lay} (hl:l.Ok) {p:Pen} {σ:S} {x y:Int} (hy:0≤y∧y<18446744073709551616)  : FnD Tryz.prog 94 [zbh l mt mv p,.int .i64 x,.int .u64 y] [A σ] (.tuple #[]) [A (zeg l p σ x y)]:=by
 refine Fn.enter (Tryz.func94) rfl rfl (fun w0 R=>?_)
 refine sA (xB 1 rfl (fun bk1=>(dS (TC.draw [(0,true),(1,true),(2,true),(3,true),(4,true),(6,true),(7,true),(8,true),(5,false),(9,false)] [1] fc_m (by kernel_rfl) (xf 3 zaY rfl (xlc 1 zbK rfl rfl (xf 0 zaB rfl (xL3 1 zaa rfl rfl (xmi rfl ?_)))))))))
 refine xmi rfl (TL.ncI rfl rfl rfl (xmc rfl (TL.callD [] [] (zaE hl) ⟨rfl,rfl,rfl,trivial⟩ trivial zbm rfl rfl rfl rfl rfl (kL1 rfl trivial) (TL.mstore 0 hM rfl rfl rfl (by first | exact hy | decide) rfl rfl rfl (kL1 rfl trivial) (dA (xL6 1 zaf rfl rfl (xmi rfl (TL.callD [0] [0] (zpS hM hl) ⟨rfl,rfl,trivial⟩ ⟨rfl,trivial⟩ zr3 rfl rfl rfl rfl rfl trivial ?_))))))))
 refine dS (TC.draw [(0,true),(1,true),(2,true),(3,true),(4,true),(5,true),(6,true),(7,false),(8,false)] [1] fc_m (by kernel_rfl) (xf 4 zhI rfl (xL2 1 zcq rfl rfl (xf 3 zaY rfl (xlc 1 zbK rfl rfl (xf 0 zaB rfl (xL3 1 zaa rfl rfl (xmi rfl ?_))))))))
 refine TL.callD [] [] (zaE hl) ⟨rfl,rfl,rfl,trivial⟩ trivial zbm rfl rfl rfl rfl rfl (kL1 rfl trivial) (TL.callD [0] [0] (zlp hM) ⟨rfl,rfl,rfl,trivial⟩ ⟨rfl,trivial⟩ zqk rfl rfl rfl rfl rfl (kL1 rfl trivial) (dA (xai rfl (dB (xf 0 zaB rfl (xL3 1 zaa rfl rfl (xmi rfl (TL.callD [] [] (zid hl) ⟨rfl,rfl,trivial⟩ trivial zle rfl rfl rfl rfl rfl trivial ?_))))))))
 refine xmu rfl (TL.ext (.agg _) rfl rfl rfl rfl (TL.ext (.bool _) rfl rfl rfl rfl (TL.alloc 2 (cs:=#[.bool false,.int .i64 0,.int .i64 0,.int .i64 0,.int .i64 0]) zf2 rfl rfl rfl (fun _=>trivial) (fun bk2=>(TL.stW 2 5 [_,_,_,_,_] rfl rfl rfl rfl rfl rfl zcp rfl rfl trivial (xab rfl (dA (xf 0 zhF rfl (xlb 2 zc4 rfl rfl ?_)))))))))
 refine TL.not _ _ rfl rfl rfl rfl (xmb rfl (TL.cases rfl (fun q1=>?_) (fun q1=>?_)))
 refine xf 1 zfL rfl (xli 2 zae rfl rfl (TL.eql rfl rfl rfl rfl (fun q2=>?_) (fun q2=>?_)))
 refine xpT rfl (TL.done (TQ.then (TC.condT rfl (TC.region (xai rfl (TL.done (TQ.then (TC.draw [(0,true),(1,true),(2,true),(3,true),(4,true),(6,true),(7,true),(8,true),(5,false),(9,false)] [1] fc_m (by kernel_rfl) ?_))))))))
 refine xf 3 zaY rfl (xlc 1 zbK rfl rfl (xf 0 zaB rfl (xL3 1 zaa rfl rfl (xmi rfl (xmi rfl (TL.ncI rfl rfl rfl (xmc rfl (TL.callD [] [] (zaE hl) ⟨rfl,rfl,rfl,trivial⟩ trivial zbm rfl rfl rfl rfl rfl (kL1 rfl trivial) ?_))))))))
 refine TL.mstore 0 hM rfl rfl rfl (by first | exact hy | decide) rfl rfl rfl (kL1 rfl trivial) (TL.done ?_)
 refine FQ.end0 (Bs:=[A _]) [0] rfl rfl ⟨rfl,trivial⟩ ?_
 exact ⟨rfl,by unfold zeg zfD; rw [if_pos ⟨by simpa using q1,q2⟩]⟩
 refine xpG rfl (TL.done (TQ.then (TC.condF rfl (TC.skip (TQ.then (TC.draw [(0,true),(1,true),(2,true),(3,true),(4,true),(6,true),(7,true),(8,true),(5,false),(9,false)] [1] fc_m (by kernel_rfl) (xf 3 zaY rfl (xlc 1 zbK rfl rfl ?_))))))))
 refine xf 0 zaB rfl (xL3 1 zaa rfl rfl (xmi rfl (xmi rfl (TL.ncI rfl rfl rfl (xmc rfl (TL.callD [] [] (zaE hl) ⟨rfl,rfl,rfl,trivial⟩ trivial zbm rfl rfl rfl rfl rfl (kL1 rfl trivial) (TL.mstore 0 hM rfl rfl rfl (by first | exact hy | decide) rfl rfl rfl (kL1 rfl trivial) (TL.done ?_))))))))
 refine FQ.end0 (Bs:=[A _]) [0] rfl rfl ⟨rfl,trivial⟩ ?_
 exact ⟨rfl,by unfold zeg zfD; rw [if_neg (fun h=>q2 h.2)]⟩
 refine xo rfl (xo rfl (xo rfl (xpF rfl (TL.done (TQ.then (TC.condF rfl (TC.skip (TQ.then ?_))))))))
 refine TC.draw [(0,true),(1,true),(2,true),(3,true),(4,true),(6,true),(7,true),(8,true),(5,false),(9,false)] [1] fc_m (by kernel_rfl) (xf 3 zaY rfl (xlc 1 zbK rfl rfl (xf 0 zaB rfl (xL3 1 zaa rfl rfl (xmi rfl (xmi rfl (TL.ncI rfl rfl rfl (xmc rfl ?_))))))))
 refine TL.callD [] [] (zaE hl) ⟨rfl,rfl,rfl,trivial⟩ trivial zbm rfl rfl rfl rfl rfl (kL1 rfl trivial) (TL.mstore 0 hM rfl rfl rfl (by first | exact hy | decide) rfl rfl rfl (kL1 rfl trivial) (TL.done ?_))
 refine FQ.end0 (Bs:=[A _]) [0] rfl rfl ⟨rfl,trivial⟩ ?_
 exact ⟨rfl,by unfold zeg zfD; rw [if_neg (fun h=>by rw [h.1] at q1; cases q1)]⟩
theorem zlq {l:Lay} (hl:l.Ok) {a:Option Addr} {b off dn dc:Nat} {Ad:Assn} {fd:Nat→Int} (ha:0<dn→a=some ⟨b,off,none⟩) (hAd:zaV Ad encU 1 b off dn fd) (hfd:∀ i,i<dn→0≤fd i∧fd i<18446744073709551616) (hdn:dn≤256)  : Go.Eng.Fn Tryz.prog 35 [layV l,.slice a dn dc] [Ad] (fun v Bs=>∃ ab mb,v=.tuple #[.pointer (some ⟨ab,0,none⟩),.int .i64 0]∧Bs=[Ad,zar ab mb 140 71 (zhP l dn fd (Array.replicate l.cells.toNat 0))]):=by
 obtain ⟨N,hN⟩:∃ N:Nat,l.cells=(N:Int):=⟨l.cells.toNat,by have:=zdV hl; have:=zaI hl; have:=zb3 hl; have:=zbQ hl; omega⟩
 have hN2:l.cells.toNat=N:=by omega
 have hcb:=zdV hl
 have hnb:=zaI hl
 refine Fn.enter (Tryz.func35) rfl rfl (fun w0 R=>?_)
 refine sA (xB 1 rfl (fun bk1=>(TL.asg (.pointer none) rfl rfl rfl (xai rfl (dS (TC.block (sA (xL3 1 zaa rfl rfl (TL.callD [] [] (zm7 hl) ⟨rfl,trivial⟩ trivial ztk rfl rfl rfl rfl rfl trivial ?_)))))))))
 refine xnt rfl (xaf rfl (TL.done (TQ.then (TC.condF rfl (sA (xms rfl (xz zas rfl (TL.gtrF rfl rfl (by omega) rfl rfl ?_))))))))
 refine xaf rfl (TL.done (TQ.then (TC.condF rfl (TC.skip (TQ.inBlock (TQ.then (sA (xL3 1 zaa rfl rfl ?_))))))))
 refine TL.callD [] [] (zpI hl) ⟨rfl,trivial⟩ trivial ztu rfl rfl rfl rfl rfl trivial ?_
 rw [hN]
 refine TL.call [] [2] (zsp (by omega)) ⟨rfl,trivial⟩ trivial ztj rfl rfl rfl rfl ?_
 rintro v Bs ⟨ab,mb,rfl,rfl⟩
 refine ⟨rfl,trivial,?_⟩
 rw [←hN2]
 refine TL.conseq 2 (B:=zar ab mb 140 71 (Array.replicate l.cells.toNat 0)) rfl (fun h hh=>zaK hh) trivial (xmu rfl (TL.ext (.pointer (some ⟨_,_,none⟩)) rfl rfl rfl rfl (xei rfl rfl (xap rfl (xai rfl (dB (xmi rfl (TL.neqF rfl rfl (by omega) rfl rfl ?_))))))))
 refine TL.done (TQ.then (TC.condF rfl (TC.skip (TQ.then (TC.seq (TC.draw [(0,true),(3,true),(1,false),(2,true),(4,false)] [1] fc_m (by kernel_rfl) (xmp rfl (xL3 1 zaa rfl rfl ?_))))))))
 refine TL.callD [] [] zgh ⟨rfl,trivial⟩ trivial zlf rfl rfl rfl rfl rfl (kL1 rfl trivial) (TL.miN (v:=(.agg _)) rfl zgU rfl rfl (TL.callD [2] [2] (zoY zd7 (zcF) hl) ⟨rfl,rfl,trivial⟩ ⟨rfl,trivial⟩ zti rfl rfl rfl rfl rfl (kL1 rfl trivial) (dS (TC.drawT (.br [(0,true),(1,true),(4,true)] 2 6 (.fin [(3,true),(5,true),(6,false),(7,false)]) (.fin [(2,false),(3,true),(5,true),(7,false)])) [1] fc_m (by kernel_rfl) (TT.br (xL3 1 zaa rfl rfl (xmp rfl (TL.bld [.int .i64 0,.int .i64 0] [(.int _ _)] [_,_] znA zqe ⟨rfl,trivial⟩ ⟨rfl,rfl⟩ rfl rfl (TL.both ?_ ?_)))))))))
 refine TL.callD [] [] zgh ⟨rfl,trivial⟩ trivial zlf rfl rfl rfl rfl rfl (kL1 rfl trivial) (TL.tree (TT.fin (TL.miN (v:=(.agg _)) rfl zgU rfl rfl (TL.bld [.int .i64 0,.int .i64 0,.int .i64 0,.nilIface,.int .i64 0,.int .i64 0] [(.agg _),(.iface _ _),(.agg _)] [_,_,_,_,_,_] zjc znE ⟨rfl,rfl,rfl,trivial⟩ ⟨rfl,rfl⟩ rfl rfl (TL.alloc 3 (cs:=#[.int .i64 0,.int .i64 0,.int .i64 0,.nilIface,.int .i64 0,.int .i64 0]) zjc rfl rfl rfl (fun _=>(kL1 rfl trivial)) (fun bk3=>(TL.stW 3 6 [_,_,_,_,_,_] rfl rfl rfl rfl rfl rfl zaf rfl rfl (kL1 rfl trivial) (dB (xai rfl (dK ?_))))))))))
 refine TC.loopK (X:=Nat) [1,2,4,5,6,8] [0,1,3] (fun x=>[(9,.int .i64 ((x+1:Nat):Int))]) (fun x=>[(2,zar ab mb 140 71 (zcB l dn fd x (zf6 l (Array.replicate l.cells.toNat 0))))]) (fun x=>(x:Int)≤l.nodes) (fun x=>l.nodes.toNat - x) (0) (by omega) ⟨rfl,trivial⟩ ⟨rfl,trivial⟩ (fun x hI=>(TC.sub (env':=[(9,_),(1,_),(2,_),(4,_),(5,_),(6,_),(8,_)]) (L':=[(2,_),(0,_),(1,_),(3,_)]) ⟨rfl,rfl,rfl,rfl,rfl,rfl,rfl,trivial⟩ ⟨rfl,rfl,rfl,rfl,trivial⟩ (sB (xmi rfl (xL3 1 zaa rfl rfl (TL.callD [] [] (zdH hl) ⟨rfl,trivial⟩ trivial zg3 rfl rfl rfl rfl rfl trivial (TL.leq rfl rfl rfl rfl (fun q1=>?_) (fun q1=>?_))))))))
 refine TL.done (TQ.then (TC.condT rfl (TC.skip (TQ.then (TC.seq (TC.block (sA (xai rfl ?_))))))))
 refine dB (xms rfl (xz zas rfl (TL.gtr rfl rfl rfl rfl (fun q2=>?_) (fun q2=>?_))))
 refine TL.done (TQ.then (TC.condT rfl (TC.region (xms rfl (xmi rfl (xms rfl (xz zas rfl (TL.rem ((((x+1) % dn:Nat):Int)) rfl rfl (by omega) (by rw [Int.tmod_eq_emod_of_nonneg (by omega)]; exact (Int.natCast_emod (x+1) dn).symm) rfl rfl ?_))))))))
 refine TL.iaO rfl ha rfl zas (Nat.mod_lt _ (by omega)) rfl rfl (TL.ldRS 0 (.int _ _) rfl rfl hAd (Nat.mod_lt _ (by omega)) (rfl) zeD rfl rfl (xai rfl (dG (xL6 3 zaf rfl rfl (xmi rfl (xmi rfl (TL.callD [2] [2] (zgl (p:=P1) zd7 hl (by first | exact hfd _ (Nat.mod_lt _ (by omega)) | decide)) ⟨rfl,rfl,rfl,trivial⟩ ⟨rfl,trivial⟩ zlb rfl rfl rfl rfl rfl trivial (dI ?_))))))))
 refine xmi rfl (TL.add (((x+2:Nat):Int)) rfl rfl (wrN (by omega)) rfl rfl (xai rfl (TL.done (TQ.roundK (x+1) ⟨(by omega),(by omega)⟩ ⟨rfl,trivial⟩ ⟨congrArg (fun z=>some (zar ab mb 140 71 (z))) (zhO (by omega)),trivial⟩ (kE6 rfl rfl rfl rfl rfl rfl trivial) (kL3 rfl rfl rfl trivial)))))
 refine TL.done (TQ.then (TC.condF rfl (TC.skip (TQ.then (TC.region (xL6 3 zaf rfl rfl (xmi rfl (xmi rfl ?_))))))))
 refine TL.callD [2] [2] (zgl (p:=P1) zd7 hl (by first | exact hfd _ (Nat.mod_lt _ (by omega)) | decide)) ⟨rfl,rfl,rfl,trivial⟩ ⟨rfl,trivial⟩ zlb rfl rfl rfl rfl rfl trivial (dI (xmi rfl (TL.add (((x+2:Nat):Int)) rfl rfl (wrN (by omega)) rfl rfl (xai rfl (TL.done (TQ.roundK (x+1) ⟨(by omega),(by omega)⟩ ⟨rfl,trivial⟩ ⟨congrArg (fun z=>some (zar ab mb 140 71 (z))) (zhd (by omega)),trivial⟩ (kE6 rfl rfl rfl rfl rfl rfl trivial) (kL3 rfl rfl rfl trivial)))))))
 refine dE rfl (sA (xmp rfl (xap rfl (xai rfl (dR ?_)))))
 refine FQ.ret2 (v:=(.pointer (some ⟨_,_,none⟩))) (x:=(.int _ _)) (Bs:=[Ad,_]) [0,2] rfl rfl rfl rfl ⟨rfl,rfl,trivial⟩ ?_
 obtain rfl:x=l.nodes.toNat:=by omega
 exact ⟨_,_,rfl,rfl⟩
 refine TL.alloc 4 (cs:=#[.int .i64 0,.int .i64 0,.int .i64 0,.nilIface,.int .i64 0,.int .i64 0]) zjc rfl rfl rfl (fun _=>(kL1 rfl trivial)) (fun bk4=>(TL.tree (TT.fin (TL.callD [] [] zgh ⟨rfl,trivial⟩ trivial zlf rfl rfl rfl rfl rfl (kL1 rfl trivial) (TL.miN (v:=(.agg _)) rfl zgU rfl rfl (TL.bld [.int .i64 0,.int .i64 0,.int .i64 0,.nilIface,.int .i64 0,.int .i64 0] [(.agg _),(.iface _ _),(.agg _)] [_,_,_,_,_,_] zjc znE ⟨rfl,rfl,rfl,trivial⟩ ⟨rfl,rfl⟩ rfl rfl (TL.stW 4 6 [_,_,_,_,_,_] rfl rfl rfl rfl rfl rfl zaf rfl rfl (kL1 rfl trivial) (dB (xai rfl (dK ?_))))))))))
 refine TC.loopK (X:=Nat) [1,2,4,5,6,8] [0,1,4] (fun x=>[(9,.int .i64 ((x+1:Nat):Int))]) (fun x=>[(2,zar ab mb 140 71 (zcB l dn fd x (zf6 l (Array.replicate l.cells.toNat 0))))]) (fun x=>(x:Int)≤l.nodes) (fun x=>l.nodes.toNat - x) (0) (by omega) ⟨rfl,trivial⟩ ⟨rfl,trivial⟩ (fun x hI=>(TC.sub (env':=[(9,_),(1,_),(2,_),(4,_),(5,_),(6,_),(8,_)]) (L':=[(2,_),(0,_),(1,_),(4,_)]) ⟨rfl,rfl,rfl,rfl,rfl,rfl,rfl,trivial⟩ ⟨rfl,rfl,rfl,rfl,trivial⟩ (sB (xmi rfl (xL3 1 zaa rfl rfl (TL.callD [] [] (zdH hl) ⟨rfl,trivial⟩ trivial zg3 rfl rfl rfl rfl rfl trivial (TL.leq rfl rfl rfl rfl (fun q1=>?_) (fun q1=>?_))))))))
 refine TL.done (TQ.then (TC.condT rfl (TC.skip (TQ.then (TC.seq (TC.block (sA (xai rfl ?_))))))))
 refine dB (xms rfl (xz zas rfl (TL.gtr rfl rfl rfl rfl (fun q2=>?_) (fun q2=>?_))))
 refine TL.done (TQ.then (TC.condT rfl (TC.region (xms rfl (xmi rfl (xms rfl (xz zas rfl (TL.rem ((((x+1) % dn:Nat):Int)) rfl rfl (by omega) (by rw [Int.tmod_eq_emod_of_nonneg (by omega)]; exact (Int.natCast_emod (x+1) dn).symm) rfl rfl ?_))))))))
 refine TL.iaO rfl ha rfl zas (Nat.mod_lt _ (by omega)) rfl rfl (TL.ldRS 0 (.int _ _) rfl rfl hAd (Nat.mod_lt _ (by omega)) (rfl) zeD rfl rfl (xai rfl (dG (xL6 4 zaf rfl rfl (xmi rfl (xmi rfl (TL.callD [2] [2] (zgl (p:=P1) zd7 hl (by first | exact hfd _ (Nat.mod_lt _ (by omega)) | decide)) ⟨rfl,rfl,rfl,trivial⟩ ⟨rfl,trivial⟩ zlb rfl rfl rfl rfl rfl trivial (dI ?_))))))))
 refine xmi rfl (TL.add (((x+2:Nat):Int)) rfl rfl (wrN (by omega)) rfl rfl (xai rfl (TL.done (TQ.roundK (x+1) ⟨(by omega),(by omega)⟩ ⟨rfl,trivial⟩ ⟨congrArg (fun z=>some (zar ab mb 140 71 (z))) (zhO (by omega)),trivial⟩ (kE6 rfl rfl rfl rfl rfl rfl trivial) (kL3 rfl rfl rfl trivial)))))
 refine TL.done (TQ.then (TC.condF rfl (TC.skip (TQ.then (TC.region (xL6 4 zaf rfl rfl (xmi rfl (xmi rfl ?_))))))))
 refine TL.callD [2] [2] (zgl (p:=P1) zd7 hl (by first | exact hfd _ (Nat.mod_lt _ (by omega)) | decide)) ⟨rfl,rfl,rfl,trivial⟩ ⟨rfl,trivial⟩ zlb rfl rfl rfl rfl rfl trivial (dI (xmi rfl (TL.add (((x+2:Nat):Int)) rfl rfl (wrN (by omega)) rfl rfl (xai rfl (TL.done (TQ.roundK (x+1) ⟨(by omega),(by omega)⟩ ⟨rfl,trivial⟩ ⟨congrArg (fun z=>some (zar ab mb 140 71 (z))) (zhd (by omega)),trivial⟩ (kE6 rfl rfl rfl rfl rfl rfl trivial) (kL3 rfl rfl rfl trivial)))))))
 refine dE rfl (sA (xmp rfl (xap rfl (xai rfl (dR ?_)))))
 refine FQ.ret2 (v:=(.pointer (some ⟨_,_,none⟩))) (x:=(.int _ _)) (Bs:=[Ad,_]) [0,2] rfl rfl rfl rfl ⟨rfl,rfl,trivial⟩ ?_
 obtain rfl:x=l.nodes.toNat:=by omega
 exact ⟨_,_,rfl,rfl⟩
theorem zkt {l:Lay} (hl:l.Ok) {v:Int}:Go.Eng.Fn Tryz.prog 39 [layV l,.int .i64 v] [] (fun x Bs=>∃ cb,x=.pointer (some ⟨cb,0,none⟩)∧Bs=[zao 157 189 cb l (zaR l v)]):=by
 refine Fn.enter (Tryz.func39) rfl rfl (fun w0 R=>?_)
 refine sA (xB 0 rfl (fun bk0=>(TL.asg (.pointer none) rfl rfl rfl (dA (xL3 0 zaa rfl rfl (xmi rfl (TL.callD [] [] (zdo hl) ⟨rfl,rfl,rfl,trivial⟩ trivial zhM rfl rfl rfl rfl rfl trivial (xai rfl (dS ?_)))))))))
 refine TC.draw [(0,true),(1,true),(2,true),(3,true),(4,true),(5,false),(6,false),(7,true),(8,false),(9,true)] [0] fc_m (by kernel_rfl) (xL3 0 zaa rfl rfl (xmi rfl (xL3 0 zaa rfl rfl (xL3 0 zaa rfl rfl (xmi rfl (TL.callD [] [] (zaE hl) ⟨rfl,rfl,rfl,trivial⟩ trivial zbm rfl rfl rfl rfl rfl (kL1 rfl trivial) (TL.call [] [1] zel ⟨rfl,rfl,trivial⟩ trivial zla rfl rfl rfl rfl ?_)))))))
 rintro v Bs ⟨lb,rfl,rfl⟩
 refine ⟨rfl,(kL1 rfl trivial),?_⟩
 refine TL.bld [.int .i64 0,.int .i64 0,.int .i64 0,.int .i64 0,.pointer none,.bool false,.bool false,.int .i64 0,.int .i64 0] [(.agg _),(.int _ _),(.pointer (some ⟨_,_,none⟩))] [_,_,_,_,_,_,_,_,_] zrB zrI ⟨rfl,rfl,rfl,trivial⟩ ⟨rfl,rfl⟩ rfl rfl (TL.boxA 2 rfl rfl rfl (fun _=>(kL1 rfl trivial)) (fun bk2=>(xap rfl (dR (TQ.close 2 1 (zao 157 189 _ l (zaR l v)) (by decide) rfl rfl (fun _ _ _ s1 s2 hd h1 h2=>zaq s1 s2 hd h1 h2) ?_)))))
 refine FQ.ret1 (v:=(.pointer (some ⟨_,_,none⟩))) (Bs:=[_]) [2] rfl rfl rfl ⟨rfl,trivial⟩ ?_
 exact ⟨_,rfl,rfl⟩
theorem zlm {l:Lay} {cb:Nat} {c:ClimbS}:FnD Tryz.prog 41 [.pointer (some ⟨cb,0,none⟩)] [zao 157 189 cb l (c)] (.int .i64 c.root) [zao 157 189 cb l (c)]:=by
 refine Fn.enter (Tryz.func41) rfl rfl (fun w0 R=>?_)
 refine sA (xai rfl (dS (TC.seq (TC.openE 0 rfl (fun lb=>(TC.openS 0 1 rfl (by decide) (TC.region (xmp rfl (xN0 rfl ?_)))))))))
 refine xf 6 zbW rfl (xlb 0 zc4 rfl rfl (TL.not _ _ rfl rfl rfl rfl (TL.done (TQ.then (TC.cond rfl (fun q1=>?_) (fun q1=>?_))))))
 refine sA (xai rfl (dRR (TQ.close 0 1 (zao 157 189 cb l (c)) (by decide) rfl rfl (fun _ _ _ s1 s2 hd h1 h2=>zaq s1 s2 hd h1 h2) ?_)))
 refine FQ.ret1 (v:=(.int _ _)) (Bs:=[_]) [0] rfl rfl rfl ⟨rfl,trivial⟩ ?_
 have q:c.done=false:=by simpa using q1
 exact ⟨iE (by unfold ClimbS.root; rw [q]; rfl),rfl⟩
 refine TC.skip (TQ.then (sA (xmp rfl (xN0 rfl (xf 3 zdQ rfl (xli 0 zae rfl rfl (xai rfl (dR ?_))))))))
 refine TQ.close 0 1 (zao 157 189 cb l (c)) (by decide) rfl rfl (fun _ _ _ s1 s2 hd h1 h2=>zaq s1 s2 hd h1 h2) ?_
 refine FQ.ret1 (v:=(.int _ _)) (Bs:=[_]) [0] rfl rfl rfl ⟨rfl,trivial⟩ ?_
 have q:c.done=true:=by simpa using q1
 exact ⟨iE (by unfold ClimbS.root; rw [q]; rfl),rfl⟩
theorem zll {l:Lay} (hl:l.Ok) {cb ab mb:Nat} {c:ClimbS} {σ:Array UInt64} {n:Cnt}:FnD Tryz.prog 40 [.pointer (some ⟨cb,0,none⟩),.pointer (some ⟨ab,0,none⟩)] [zao 157 189 cb l (c),arenaC ab mb 140 71 (σ) (n)] (.bool (c.stp l σ).done) [zao 157 189 cb l (c.stp l σ),arenaC ab mb 140 71 (σ) (c.cnt l σ n)]:=by
 refine Fn.enter (Tryz.func40) rfl rfl (fun w0 R=>?_)
 refine sA (xaf rfl (dS (TC.seq (TC.openE 0 rfl (fun lb=>(TC.openS 0 2 rfl (by decide) (TC.region (xmp rfl (xN0 rfl ?_)))))))))
 refine xf 6 zbW rfl (xlb 0 zc4 rfl rfl (TL.done (TQ.then (TC.cond rfl (fun q1=>?_) (fun q1=>?_)))))
 refine sA (xat rfl (dRR ?_))
 first | refine TQ.close 0 2 (zao 157 189 cb l (⟨c.node,c.look.step l σ,c.top,true,(c.look.step l σ).value,IntKind.i64.wrap (c.step+1)⟩)) (by decide) rfl rfl (fun _ _ _ s1 s2 hd h1 h2=>zaq s1 s2 hd h1 h2) ?_ | refine TQ.close 0 2 (zao 157 189 cb l (⟨c.node,zc9 (l.field c.node 1),true,c.done,c.version,IntKind.i64.wrap (c.step+1)⟩)) (by decide) rfl rfl (fun _ _ _ s1 s2 hd h1 h2=>zaq s1 s2 hd h1 h2) ?_ | refine TQ.close 0 2 (zao 157 189 cb l (⟨(c.look.step l σ).value,zc9 (l.field (c.look.step l σ).value 2),c.top,c.done,c.version,IntKind.i64.wrap (c.step+1)⟩)) (by decide) rfl rfl (fun _ _ _ s1 s2 hd h1 h2=>zaq s1 s2 hd h1 h2) ?_ | refine TQ.close 0 2 (zao 157 189 cb l (⟨c.node,c.look.step l σ,c.top,c.done,c.version,IntKind.i64.wrap (c.step+1)⟩)) (by decide) rfl rfl (fun _ _ _ s1 s2 hd h1 h2=>zaq s1 s2 hd h1 h2) ?_ | refine TQ.close 0 2 (zao 157 189 cb l (c)) (by decide) rfl rfl (fun _ _ _ s1 s2 hd h1 h2=>zaq s1 s2 hd h1 h2) ?_
 refine FQ.ret1 (v:=(.bool true)) (Bs:=[_,_]) [0,1] rfl rfl rfl ⟨rfl,rfl,trivial⟩ ?_
 exact ⟨by rw [ClimbS.stp_d q1,q1],by rw [ClimbS.stp_d q1,ClimbS.cnt_d q1]⟩
 refine TC.skip (TQ.then (sA (xmp rfl (xN0 rfl (xf 8 zgY rfl (xli 0 zae rfl rfl (TL.add _ rfl rfl (rfl) rfl rfl (xN0 rfl ?_))))))))
 refine xf 8 zgY rfl (TL.st 0 #[_,_,_,_,_,_,_,_,_] (.int _ _) rfl rfl rfl rfl rfl rfl zae rfl rfl trivial (dB (xmp rfl (xN0 rfl (xf 4 zc6 rfl (xlp 0 zgT rfl rfl (xmp rfl (TL.callD [2,1] [2,1] (znb hl) ⟨rfl,rfl,trivial⟩ ⟨rfl,rfl,trivial⟩ zth rfl rfl rfl rfl rfl trivial ?_))))))))
 refine TL.cases rfl (fun q2=>?_) (fun q2=>?_)
 refine xnt rfl (dF rfl (xmp rfl (xN0 rfl (xf 4 zc6 rfl (xlp 0 zgT rfl rfl (TL.callD [2] [2] zlQ ⟨rfl,trivial⟩ ⟨rfl,trivial⟩ ztg rfl rfl rfl rfl rfl trivial (xai rfl (dS ?_))))))))
 refine TC.block (sA (xmp rfl (xN0 rfl (xf 5 zeO rfl (xlb 0 zc4 rfl rfl (xab rfl (TL.done (TQ.then ?_))))))))
 refine TC.cond rfl (fun q3=>?_) (fun q3=>?_)
 refine TC.region (xmp rfl (xmp rfl (xmi rfl (xN0 rfl (xf 7 zkg rfl (TL.st 0 #[_,_,_,_,_,_,_,_,_] (.int _ _) rfl rfl rfl rfl rfl rfl zae rfl rfl trivial (xN0 rfl (xf 6 zbW rfl ?_))))))))
 refine TL.st 0 #[_,_,_,_,_,_,_,_,_] (.bool true) rfl rfl rfl rfl rfl rfl zc4 rfl rfl trivial (TL.done (TQ.inBlock (TQ.then (sA (xmp rfl (xN0 rfl (xf 6 zbW rfl (xlt 0 zc4 rfl rfl ?_))))))))
 refine xat rfl (dR ?_)
 first | refine TQ.close 0 2 (zao 157 189 cb l (⟨c.node,c.look.step l σ,c.top,true,(c.look.step l σ).value,IntKind.i64.wrap (c.step+1)⟩)) (by decide) rfl rfl (fun _ _ _ s1 s2 hd h1 h2=>zaq s1 s2 hd h1 h2) ?_ | refine TQ.close 0 2 (zao 157 189 cb l (⟨c.node,zc9 (l.field c.node 1),true,c.done,c.version,IntKind.i64.wrap (c.step+1)⟩)) (by decide) rfl rfl (fun _ _ _ s1 s2 hd h1 h2=>zaq s1 s2 hd h1 h2) ?_ | refine TQ.close 0 2 (zao 157 189 cb l (⟨(c.look.step l σ).value,zc9 (l.field (c.look.step l σ).value 2),c.top,c.done,c.version,IntKind.i64.wrap (c.step+1)⟩)) (by decide) rfl rfl (fun _ _ _ s1 s2 hd h1 h2=>zaq s1 s2 hd h1 h2) ?_ | refine TQ.close 0 2 (zao 157 189 cb l (⟨c.node,c.look.step l σ,c.top,c.done,c.version,IntKind.i64.wrap (c.step+1)⟩)) (by decide) rfl rfl (fun _ _ _ s1 s2 hd h1 h2=>zaq s1 s2 hd h1 h2) ?_ | refine TQ.close 0 2 (zao 157 189 cb l (c)) (by decide) rfl rfl (fun _ _ _ s1 s2 hd h1 h2=>zaq s1 s2 hd h1 h2) ?_
 refine FQ.ret1 (v:=(.bool true)) (Bs:=[_,_]) [0,1] rfl rfl rfl ⟨rfl,rfl,trivial⟩ ?_
 have d1:c.done=false:=q1
 have d2:(c.look.step l σ).done=true:=by simpa using q2
 rw [ClimbS.stp_b d1 d2 q3,ClimbS.cnt_n d1]
 exact ⟨rfl,rfl⟩
 refine sA (xmi rfl (TL.gtr rfl rfl rfl rfl (fun q4=>?_) (fun q4=>?_)))
 refine xmt rfl (xmi rfl (xmp rfl (xN0 rfl (xf 0 zbX rfl (xL3 0 zaa rfl rfl (TL.callD [] [] (zdH hl) ⟨rfl,trivial⟩ trivial zg3 rfl rfl rfl rfl rfl trivial (TL.leq rfl rfl rfl rfl (fun q5=>?_) (fun q5=>?_))))))))
 refine xpT rfl (xat rfl (dT rfl (xmp rfl (xmi rfl (xN0 rfl (xf 3 zdQ rfl (TL.st 0 #[_,_,_,_,_,_,_,_,_] (.int _ _) rfl rfl rfl rfl rfl rfl zae rfl rfl trivial (TL.done ?_))))))))
 refine TQ.then (TC.draw2 [(0,true),(1,true),(2,true),(3,true),(4,true),(5,true),(6,true),(7,true),(8,true),(9,true),(10,false),(11,false),(12,true),(13,true)] 14 [] [0] fc_m (by kernel_rfl) (xmp rfl (xmp rfl (xN0 rfl (xf 0 zbX rfl (xL3 0 zaa rfl rfl (xmp rfl (xN0 rfl ?_))))))))
 refine xf 0 zbX rfl (xL3 0 zaa rfl rfl (xmi rfl (TL.callD [] [] (zaE hl) ⟨rfl,rfl,rfl,trivial⟩ trivial zbm rfl rfl rfl rfl rfl (kL1 rfl trivial) (TL.call [] [3] zel ⟨rfl,rfl,trivial⟩ trivial zla rfl rfl rfl rfl ?_))))
 rintro v Bs ⟨lb,rfl,rfl⟩
 refine ⟨rfl,(kL1 rfl trivial),?_⟩
 refine xN0 rfl (xf 4 zc6 rfl (TL.late (TL.st 0 #[_,_,_,_,_,_,_,_,_] (.pointer (some ⟨_,_,none⟩)) rfl rfl rfl rfl rfl rfl zgT rfl rfl trivial (TL.done (TQ.inBlock (TQ.then (sA (xmp rfl ?_))))))))
 refine xN0 rfl (xf 6 zbW rfl (xlb 0 zc4 rfl rfl (xab rfl (dR ?_))))
 first | refine TQ.close 0 3 (zao 157 189 cb l (⟨c.node,c.look.step l σ,c.top,true,(c.look.step l σ).value,IntKind.i64.wrap (c.step+1)⟩)) (by decide) rfl rfl (fun _ _ _ s1 s2 hd h1 h2=>zaq s1 s2 hd h1 h2) ?_ | refine TQ.close 0 3 (zao 157 189 cb l (⟨c.node,zc9 (l.field c.node 1),true,c.done,c.version,IntKind.i64.wrap (c.step+1)⟩)) (by decide) rfl rfl (fun _ _ _ s1 s2 hd h1 h2=>zaq s1 s2 hd h1 h2) ?_ | refine TQ.close 0 3 (zao 157 189 cb l (⟨(c.look.step l σ).value,zc9 (l.field (c.look.step l σ).value 2),c.top,c.done,c.version,IntKind.i64.wrap (c.step+1)⟩)) (by decide) rfl rfl (fun _ _ _ s1 s2 hd h1 h2=>zaq s1 s2 hd h1 h2) ?_ | refine TQ.close 0 3 (zao 157 189 cb l (⟨c.node,c.look.step l σ,c.top,c.done,c.version,IntKind.i64.wrap (c.step+1)⟩)) (by decide) rfl rfl (fun _ _ _ s1 s2 hd h1 h2=>zaq s1 s2 hd h1 h2) ?_ | refine TQ.close 0 3 (zao 157 189 cb l (c)) (by decide) rfl rfl (fun _ _ _ s1 s2 hd h1 h2=>zaq s1 s2 hd h1 h2) ?_
 refine FQ.ret1 (v:=(.bool _)) (Bs:=[_,_]) [0,1] rfl rfl rfl ⟨rfl,rfl,trivial⟩ ?_
 have d1:c.done=false:=q1
 have d2:(c.look.step l σ).done=true:=by simpa using q2
 rw [ClimbS.stp_c d1 d2 q3 q4 q5,ClimbS.cnt_n d1]
 exact ⟨by rw [d1],rfl⟩
 refine xpG rfl (xaf rfl (TL.done (TQ.then (TC.condF rfl (sA (xmp rfl (xN0 rfl (xf 5 zeO rfl ?_))))))))
 refine TL.st 0 #[_,_,_,_,_,_,_,_,_] (.bool true) rfl rfl rfl rfl rfl rfl zc4 rfl rfl trivial (TL.done (TQ.then (TC.draw2 [(0,true),(1,true),(2,true),(3,true),(4,true),(5,true),(6,true),(7,true),(8,true),(9,true),(10,true),(11,true),(12,true),(13,false),(14,false),(15,true),(16,true)] 17 [] [0] fc_m (by kernel_rfl) (xmp rfl (xmp rfl (xN0 rfl (xf 0 zbX rfl (xL3 0 zaa rfl rfl ?_))))))))
 refine xmp rfl (xN0 rfl (xf 0 zbX rfl (xL3 0 zaa rfl rfl (xmp rfl (xN0 rfl (xf 3 zdQ rfl (xli 0 zae rfl rfl (TL.callD [] [] (zaE hl) ⟨rfl,rfl,rfl,trivial⟩ trivial zbm rfl rfl rfl rfl rfl (kL1 rfl trivial) ?_))))))))
 refine TL.call [] [4] zel ⟨rfl,rfl,trivial⟩ trivial zla rfl rfl rfl rfl ?_
 rintro v Bs ⟨lb,rfl,rfl⟩
 refine ⟨rfl,(kL1 rfl trivial),?_⟩
 refine xN0 rfl (xf 4 zc6 rfl (TL.late (TL.st 0 #[_,_,_,_,_,_,_,_,_] (.pointer (some ⟨_,_,none⟩)) rfl rfl rfl rfl rfl rfl zgT rfl rfl trivial (TL.done (TQ.inBlock (TQ.then (sA (xmp rfl ?_))))))))
 refine xN0 rfl (xf 6 zbW rfl (xlb 0 zc4 rfl rfl (xab rfl (dR ?_))))
 first | refine TQ.close 0 4 (zao 157 189 cb l (⟨c.node,c.look.step l σ,c.top,true,(c.look.step l σ).value,IntKind.i64.wrap (c.step+1)⟩)) (by decide) rfl rfl (fun _ _ _ s1 s2 hd h1 h2=>zaq s1 s2 hd h1 h2) ?_ | refine TQ.close 0 4 (zao 157 189 cb l (⟨c.node,zc9 (l.field c.node 1),true,c.done,c.version,IntKind.i64.wrap (c.step+1)⟩)) (by decide) rfl rfl (fun _ _ _ s1 s2 hd h1 h2=>zaq s1 s2 hd h1 h2) ?_ | refine TQ.close 0 4 (zao 157 189 cb l (⟨(c.look.step l σ).value,zc9 (l.field (c.look.step l σ).value 2),c.top,c.done,c.version,IntKind.i64.wrap (c.step+1)⟩)) (by decide) rfl rfl (fun _ _ _ s1 s2 hd h1 h2=>zaq s1 s2 hd h1 h2) ?_ | refine TQ.close 0 4 (zao 157 189 cb l (⟨c.node,c.look.step l σ,c.top,c.done,c.version,IntKind.i64.wrap (c.step+1)⟩)) (by decide) rfl rfl (fun _ _ _ s1 s2 hd h1 h2=>zaq s1 s2 hd h1 h2) ?_ | refine TQ.close 0 4 (zao 157 189 cb l (c)) (by decide) rfl rfl (fun _ _ _ s1 s2 hd h1 h2=>zaq s1 s2 hd h1 h2) ?_
 refine FQ.ret1 (v:=(.bool _)) (Bs:=[_,_]) [0,1] rfl rfl rfl ⟨rfl,rfl,trivial⟩ ?_
 have d1:c.done=false:=q1
 have d2:(c.look.step l σ).done=true:=by simpa using q2
 rw [ClimbS.stp_e d1 d2 q3 (fun h=>q5 h.2),ClimbS.cnt_n d1]
 exact ⟨by rw [d1],rfl⟩
 refine xmf rfl (xo rfl (xo rfl (xo rfl (xo rfl (xo rfl (xo rfl (xo rfl (xpF rfl ?_))))))))
 refine xaf rfl (TL.done (TQ.then (TC.condF rfl (sA (xmp rfl (xN0 rfl (xf 5 zeO rfl (TL.st 0 #[_,_,_,_,_,_,_,_,_] (.bool true) rfl rfl rfl rfl rfl rfl zc4 rfl rfl trivial ?_))))))))
 refine TL.done (TQ.then (TC.draw2 [(0,true),(1,true),(2,true),(3,true),(4,true),(5,true),(6,true),(7,true),(8,true),(9,true),(10,true),(11,true),(12,true),(13,false),(14,false),(15,true),(16,true)] 17 [] [0] fc_m (by kernel_rfl) (xmp rfl (xmp rfl (xN0 rfl (xf 0 zbX rfl (xL3 0 zaa rfl rfl (xmp rfl ?_))))))))
 refine xN0 rfl (xf 0 zbX rfl (xL3 0 zaa rfl rfl (xmp rfl (xN0 rfl (xf 3 zdQ rfl (xli 0 zae rfl rfl (TL.callD [] [] (zaE hl) ⟨rfl,rfl,rfl,trivial⟩ trivial zbm rfl rfl rfl rfl rfl (kL1 rfl trivial) (TL.call [] [5] zel ⟨rfl,rfl,trivial⟩ trivial zla rfl rfl rfl rfl ?_))))))))
 rintro v Bs ⟨lb,rfl,rfl⟩
 refine ⟨rfl,(kL1 rfl trivial),?_⟩
 refine xN0 rfl (xf 4 zc6 rfl (TL.late (TL.st 0 #[_,_,_,_,_,_,_,_,_] (.pointer (some ⟨_,_,none⟩)) rfl rfl rfl rfl rfl rfl zgT rfl rfl trivial (TL.done (TQ.inBlock (TQ.then (sA (xmp rfl ?_))))))))
 refine xN0 rfl (xf 6 zbW rfl (xlb 0 zc4 rfl rfl (xab rfl (dR ?_))))
 first | refine TQ.close 0 5 (zao 157 189 cb l (⟨c.node,c.look.step l σ,c.top,true,(c.look.step l σ).value,IntKind.i64.wrap (c.step+1)⟩)) (by decide) rfl rfl (fun _ _ _ s1 s2 hd h1 h2=>zaq s1 s2 hd h1 h2) ?_ | refine TQ.close 0 5 (zao 157 189 cb l (⟨c.node,zc9 (l.field c.node 1),true,c.done,c.version,IntKind.i64.wrap (c.step+1)⟩)) (by decide) rfl rfl (fun _ _ _ s1 s2 hd h1 h2=>zaq s1 s2 hd h1 h2) ?_ | refine TQ.close 0 5 (zao 157 189 cb l (⟨(c.look.step l σ).value,zc9 (l.field (c.look.step l σ).value 2),c.top,c.done,c.version,IntKind.i64.wrap (c.step+1)⟩)) (by decide) rfl rfl (fun _ _ _ s1 s2 hd h1 h2=>zaq s1 s2 hd h1 h2) ?_ | refine TQ.close 0 5 (zao 157 189 cb l (⟨c.node,c.look.step l σ,c.top,c.done,c.version,IntKind.i64.wrap (c.step+1)⟩)) (by decide) rfl rfl (fun _ _ _ s1 s2 hd h1 h2=>zaq s1 s2 hd h1 h2) ?_ | refine TQ.close 0 5 (zao 157 189 cb l (c)) (by decide) rfl rfl (fun _ _ _ s1 s2 hd h1 h2=>zaq s1 s2 hd h1 h2) ?_
 refine FQ.ret1 (v:=(.bool _)) (Bs:=[_,_]) [0,1] rfl rfl rfl ⟨rfl,rfl,trivial⟩ ?_
 have d1:c.done=false:=q1
 have d2:(c.look.step l σ).done=true:=by simpa using q2
 rw [ClimbS.stp_e d1 d2 q3 (fun h=>q4 h.1),ClimbS.cnt_n d1]
 exact ⟨by rw [d1],rfl⟩
 refine xnf rfl (dT rfl (xaf rfl (dRR ?_)))
 first | refine TQ.close 0 2 (zao 157 189 cb l (⟨c.node,c.look.step l σ,c.top,true,(c.look.step l σ).value,IntKind.i64.wrap (c.step+1)⟩)) (by decide) rfl rfl (fun _ _ _ s1 s2 hd h1 h2=>zaq s1 s2 hd h1 h2) ?_ | refine TQ.close 0 2 (zao 157 189 cb l (⟨c.node,zc9 (l.field c.node 1),true,c.done,c.version,IntKind.i64.wrap (c.step+1)⟩)) (by decide) rfl rfl (fun _ _ _ s1 s2 hd h1 h2=>zaq s1 s2 hd h1 h2) ?_ | refine TQ.close 0 2 (zao 157 189 cb l (⟨(c.look.step l σ).value,zc9 (l.field (c.look.step l σ).value 2),c.top,c.done,c.version,IntKind.i64.wrap (c.step+1)⟩)) (by decide) rfl rfl (fun _ _ _ s1 s2 hd h1 h2=>zaq s1 s2 hd h1 h2) ?_ | refine TQ.close 0 2 (zao 157 189 cb l (⟨c.node,c.look.step l σ,c.top,c.done,c.version,IntKind.i64.wrap (c.step+1)⟩)) (by decide) rfl rfl (fun _ _ _ s1 s2 hd h1 h2=>zaq s1 s2 hd h1 h2) ?_ | refine TQ.close 0 2 (zao 157 189 cb l (c)) (by decide) rfl rfl (fun _ _ _ s1 s2 hd h1 h2=>zaq s1 s2 hd h1 h2) ?_
 refine FQ.ret1 (v:=(.bool false)) (Bs:=[_,_]) [0,1] rfl rfl rfl ⟨rfl,rfl,trivial⟩ ?_
 have d1:c.done=false:=q1
 have d2:(c.look.step l σ).done=false:=by simpa using q2
 rw [ClimbS.stp_a d1 d2,ClimbS.cnt_n d1]
 exact ⟨by rw [d1],rfl⟩
theorem zhc {a:Option Addr} {b off n c:Nat} {A:Assn} {f:Nat→Int} (ha:0<n→a=some ⟨b,off,none⟩) (hn:n≤20000) (hA:zaV A encI 1 b off n f):Go.Eng.Fn Tryz.prog 85 [.slice a n c] [A] (fun v Bs=>Bs=[A,ownA encI 1 3 v ((List.range n).map f).toArray]):=by
 refine Fn.enter (Tryz.func85) rfl rfl (fun w0 R=>?_)
 refine sA (TL.asg (.slice none 0 0) rfl rfl rfl (dB (xms rfl (TL.nilS rfl rfl zag rfl rfl (TL.cases rfl (fun q1=>?_) (fun q1=>?_))))))
 refine TL.done (TQ.then (TC.condT rfl (TC.seq ?_)))
 obtain rfl:n=0:=by
   rcases Nat.eq_zero_or_pos n with h | h
   ·exact h
   ·rw [ha h] at q1; simp at q1
 refine TC.nilA 1 (A:=ownA encI 1 3 (.slice none 0 0) ((List.range 0).map f).toArray) (.inl ⟨rfl,rfl⟩) (TC.region (TL.asg (.slice none 0 0) rfl rfl rfl (dRR ?_)))
 refine FQ.ret1 (v:=(.slice none 0 0)) (Bs:=[A,_]) [0,1] rfl rfl rfl ⟨rfl,rfl,trivial⟩ ?_
 rfl
 refine dF rfl (TL.bs0 2 encI zag rfl rfl (fun bk2=>⟨trivial,?_⟩))
 refine xms rfl ?_
 obtain ⟨ad,rfl⟩:∃ ad,a=some ad:=Option.ne_none_iff_exists'.1 (by rintro rfl; simp at q1)
 refine TL.appS 2 0 (d2:=((List.range n).map f).toArray) rfl (zkL f n) rfl (ha) rfl rfl (hA.congr fun i hi=>(zq4 f hi).symm) zlj (by decide) zhE (by rw [zkL]; show 0+n≤100000; omega) rfl rfl (fun v3=>⟨trivial,?_⟩)
 refine TL.conseq 2 (B:=ownA encI 1 3 v3 ((List.range n).map f).toArray) rfl (fun h hh=>by simpa using hh) trivial (xav rfl (dR ?_))
 refine FQ.ret1 (v:=_) (Bs:=[A,_]) [0,2] rfl rfl rfl ⟨rfl,rfl,trivial⟩ ?_
 rfl
theorem zob {a1 a2:Option Addr} {b1 o1 n1 c1 b2 o2 n2 c2:Nat} {A1 A2:Assn} {f g:Nat→Int} (h1:0<n1→a1=some ⟨b1,o1,none⟩) (h2:0<n2→a2=some ⟨b2,o2,none⟩) (hn:n1≤20000) (hA1:zaV A1 encI 1 b1 o1 n1 f) (hA2:zaV A2 encI 1 b2 o2 n2 g):FnD Tryz.prog 82 [.slice a1 n1 c1,.slice a2 n2 c2] [A1,A2] (.bool (decide (n1=n2) && eqN f g n1)) [A1,A2]:=by
 refine Fn.enter (Tryz.func82) rfl rfl (fun w0 R=>?_)
 refine sA (xaf rfl (dB (xms rfl (xz zag rfl (xms rfl (xz zag rfl (TL.neq rfl rfl rfl rfl (fun q1=>?_) (fun q1=>?_))))))))
 refine dT rfl (xaf rfl (dRR ?_))
 refine FQ.ret1 (v:=(.bool false)) (Bs:=[A1,A2]) [0,1] rfl rfl rfl ⟨rfl,rfl,trivial⟩ ?_
 exact ⟨congrArg Value.bool (by rw [decide_eq_false (by omega)]; rfl),rfl⟩
 refine TL.done (TQ.then (TC.condF rfl (TC.skip (TQ.then (sB (xms rfl (xz zag rfl (xmi rfl ?_))))))))
 refine dK (TC.loopK (X:=Nat) [0,1,12] [0,1] (fun i=>[(13,.int .i64 ((i:Nat):Int))]) (fun i=>[]) (fun i=>i≤n1∧∀ j,j<i→f j=g j) (fun i=>n1 - i) (0) ⟨Nat.zero_le _,fun j hj=>absurd hj (Nat.not_lt_zero _)⟩ ⟨rfl,trivial⟩ trivial (fun i hI=>?_))
 obtain ⟨hi,hj⟩:=hI
 have hn12:n1=n2:=by omega
 refine TC.sub (env':=[(13,_),(0,_),(1,_),(12,_)]) (L':=[(0,_),(1,_)]) ⟨rfl,rfl,rfl,rfl,trivial⟩ ⟨rfl,rfl,trivial⟩ (sA (TL.lss rfl rfl rfl rfl (fun q2=>?_) (fun q2=>?_)))
 refine dS (TC.condT rfl (TC.skip (TQ.then (TC.seq (TC.block (sA (xmi rfl (xai rfl ?_))))))))
 refine dS (TC.draw [(0,true),(1,true),(2,true),(3,true),(4,true),(5,true),(6,true),(7,true),(8,true)] [0,1] fc_m (by kernel_rfl) (xms rfl (xmi rfl (TL.iaO rfl h1 rfl zag (by omega) rfl rfl (TL.ldRS 0 (.int _ _) rfl rfl hA1 (by omega) (rfl) zae rfl rfl (xms rfl (xmi rfl (TL.iaO rfl h2 rfl zag (by omega) rfl rfl ?_))))))))
 refine TL.ldRS 1 (.int _ _) rfl rfl hA2 (by omega) (rfl) zae rfl rfl (TL.neq rfl rfl rfl rfl (fun q3=>?_) (fun q3=>?_))
 refine dT rfl (xaf rfl (dR (TQ.blockRet (TQ.thenRet (TQ.thenRet (TQ.blockRet (TQ.thenRet ?_)))))))
 refine FQ.ret1 (v:=(.bool false)) (Bs:=[A1,A2]) [0,1] rfl rfl rfl ⟨rfl,rfl,trivial⟩ ?_
 exact ⟨congrArg Value.bool (by rw [zty (i:=i) (by omega) (by assumption),Bool.and_false]),rfl⟩
 refine TL.done (TQ.then (TC.condF rfl (TC.skip (TQ.inBlock (TQ.then (TC.region (TL.add (((i+1:Nat):Int)) rfl rfl (wrN (by omega)) rfl rfl (xmi rfl ?_))))))))
 refine TL.done (TQ.roundK (i+1) ⟨⟨by omega,fun j hj2=>by by_cases he:j=i; subst he; exact Decidable.not_not.1 (by assumption); exact hj j (by omega)⟩,by omega⟩ ⟨rfl,trivial⟩ trivial (kE3 rfl rfl rfl trivial) (kL2 rfl rfl trivial))
 refine dS (TC.condF rfl (TC.exit (TQ.thenExit (TQ.thenExit (TQ.blockHere (TQ.then (sA (xat rfl ?_))))))))
 refine dR ?_
 refine FQ.ret1 (v:=(.bool true)) (Bs:=[A1,A2]) [0,1] rfl rfl rfl ⟨rfl,rfl,trivial⟩ ?_
 exact ⟨congrArg Value.bool (by rw [decide_eq_true hn12,zqw (fun j h=>hj j (by omega))]; rfl),rfl⟩
theorem zmd {ab mb cap:Nat} {rs:Array Value} {σ:Array UInt64} {c:Cnt}  : FnD Tryz.prog 24 [.pointer (some ⟨ab,0,none⟩)] [arO ab mb (σ.size) cap 140 c,pt mb (.cells (encM (σ)++rs) 71)] (.agg #[.int .i64 c.c1,.int .i64 c.c2,.int .i64 c.c3,.int .i64 c.c4,.int .i64 c.c5]) [arO ab mb (σ.size) cap 140 c,pt mb (.cells (encM (σ)++rs) 71)]:=by
 refine Fn.enter (Tryz.func24) rfl rfl (fun w0 R=>?_)
 refine sA (TL.alloc 2 (cs:=#[.int .i64 0,.int .i64 0,.int .i64 0,.int .i64 0,.int .i64 0]) zk9 rfl rfl rfl (fun _=>trivial) (fun bk2=>(dA (xmp rfl (xN0 rfl (xf 1 zbg rfl (xL5 0 zeq rfl rfl (TL.stW 2 5 [_,_,_,_,_] rfl rfl rfl rfl rfl rfl zeq rfl rfl trivial (dR ?_)))))))))
 refine FQ.retG (rs:=[.cell 2 62]) [(.agg _)] (Bs:=[_,_]) [0,1] rfl ⟨⟨_,_,_,_,_,2,rfl,rfl,.inr ⟨5,[_,_,_,_,_],zeq,rfl,rfl⟩⟩,trivial⟩ rfl rfl ⟨rfl,rfl,trivial⟩ ?_
 exact ⟨rfl,rfl⟩
theorem zeX {ab mb:Nat} {σ:Array UInt64} {c:Cnt}:FnD Tryz.prog 24 [.pointer (some ⟨ab,0,none⟩)] [arenaC ab mb 140 71 (σ) (c)] (.agg #[.int .i64 c.c1,.int .i64 c.c2,.int .i64 c.c3,.int .i64 c.c4,.int .i64 c.c5]) [arenaC ab mb 140 71 (σ) (c)]:=Fn.arenaC rfl fun cap rs=>zmd
theorem zjL {V S T:Int}  : FnD Tryz.prog 72 [.agg #[.int .i64 V,.int .i64 S,.int .i64 T]] [] (.bool (decide (okL V S T))) []:=by
 refine Fn.enter (Tryz.func72) rfl rfl (fun w0 R=>?_)
 refine sA (xB 0 rfl (fun bk0=>(xaf rfl (dA (xf 0 zg1 rfl (xli 0 zae rfl rfl (TL.geq rfl rfl rfl rfl (fun q1=>?_) (fun q1=>?_))))))))
 refine xmt rfl (xf 0 zg1 rfl (xli 0 zae rfl rfl (TL.leq rfl rfl rfl rfl (fun q2=>?_) (fun q2=>?_))))
 refine xpT rfl (xmt rfl (xf 1 zg0 rfl (xli 0 zae rfl rfl (TL.geq rfl rfl rfl rfl (fun q3=>?_) (fun q3=>?_)))))
 refine xpT rfl (xmt rfl (xf 1 zg0 rfl (xli 0 zae rfl rfl (TL.leq rfl rfl rfl rfl (fun q4=>?_) (fun q4=>?_)))))
 refine xpT rfl (xmt rfl (xf 2 zgZ rfl (xli 0 zae rfl rfl (TL.geq rfl rfl rfl rfl (fun q5=>?_) (fun q5=>?_)))))
 refine xpT rfl (xmt rfl (xf 2 zgZ rfl (xli 0 zae rfl rfl (TL.leqV rfl rfl rfl rfl (TL.pickT (.bool _) rfl rfl rfl rfl (xab rfl (dR ?_)))))))
 refine FQ.ret1 (v:=(.bool _)) (Bs:=[]) [] rfl rfl rfl trivial ?_
 first | exact ⟨congrArg Value.bool (by unfold okL; first | (simp [*]; done) | (simp [*]; omega) | (rw [eq_comm,decide_eq_false_iff_not]; omega) | (rw [eq_comm,decide_eq_true_iff]; omega) | (rw [decide_eq_decide]; omega)),rfl⟩
 refine xpG rfl (xmf rfl (xo rfl (xo rfl (xo rfl (xpF rfl (xaf rfl (dR ?_)))))))
 refine FQ.ret1 (v:=(.bool false)) (Bs:=[]) [] rfl rfl rfl trivial ?_
 first | exact ⟨congrArg Value.bool (by unfold okL; first | (simp [*]; done) | (simp [*]; omega) | (rw [eq_comm,decide_eq_false_iff_not]; omega) | (rw [eq_comm,decide_eq_true_iff]; omega) | (rw [decide_eq_decide]; omega)),rfl⟩
 refine xpG rfl (xmf rfl (xo rfl (xo rfl (xo rfl (xpF rfl (xmf rfl (xo rfl (xo rfl ?_))))))))
 refine xo rfl (xpF rfl (xaf rfl (dR ?_)))
 refine FQ.ret1 (v:=(.bool false)) (Bs:=[]) [] rfl rfl rfl trivial ?_
 first | exact ⟨congrArg Value.bool (by unfold okL; first | (simp [*]; done) | (simp [*]; omega) | (rw [eq_comm,decide_eq_false_iff_not]; omega) | (rw [eq_comm,decide_eq_true_iff]; omega) | (rw [decide_eq_decide]; omega)),rfl⟩
 refine xpG rfl (xmf rfl (xo rfl (xo rfl (xo rfl (xpF rfl (xmf rfl (xo rfl (xo rfl ?_))))))))
 refine xo rfl (xpF rfl (xmf rfl (xo rfl (xo rfl (xo rfl (xpF rfl (xaf rfl (dR ?_))))))))
 refine FQ.ret1 (v:=(.bool false)) (Bs:=[]) [] rfl rfl rfl trivial ?_
 first | exact ⟨congrArg Value.bool (by unfold okL; first | (simp [*]; done) | (simp [*]; omega) | (rw [eq_comm,decide_eq_false_iff_not]; omega) | (rw [eq_comm,decide_eq_true_iff]; omega) | (rw [decide_eq_decide]; omega)),rfl⟩
 refine xpG rfl (xmf rfl (xo rfl (xo rfl (xo rfl (xpF rfl (xmf rfl (xo rfl (xo rfl ?_))))))))
 refine xo rfl (xpF rfl (xmf rfl (xo rfl (xo rfl (xo rfl (xpF rfl (xmf rfl (xo rfl ?_))))))))
 refine xo rfl (xo rfl (xpF rfl (xaf rfl (dR ?_))))
 refine FQ.ret1 (v:=(.bool false)) (Bs:=[]) [] rfl rfl rfl trivial ?_
 first | exact ⟨congrArg Value.bool (by unfold okL; first | (simp [*]; done) | (simp [*]; omega) | (rw [eq_comm,decide_eq_false_iff_not]; omega) | (rw [eq_comm,decide_eq_true_iff]; omega) | (rw [decide_eq_decide]; omega)),rfl⟩
 refine xmf rfl (xo rfl (xo rfl (xo rfl (xpF rfl (xmf rfl (xo rfl (xo rfl (xo rfl ?_))))))))
 refine xpF rfl (xmf rfl (xo rfl (xo rfl (xo rfl (xpF rfl (xmf rfl (xo rfl (xo rfl ?_))))))))
 refine xo rfl (xpF rfl (xmf rfl (xo rfl (xo rfl (xo rfl (xpF rfl (xaf rfl (dR ?_))))))))
 refine FQ.ret1 (v:=(.bool false)) (Bs:=[]) [] rfl rfl rfl trivial ?_
 first | exact ⟨congrArg Value.bool (by unfold okL; first | (simp [*]; done) | (simp [*]; omega) | (rw [eq_comm,decide_eq_false_iff_not]; omega) | (rw [eq_comm,decide_eq_true_iff]; omega) | (rw [decide_eq_decide]; omega)),rfl⟩
theorem FnD.arenaA2 {P:Program} {f:FuncId} {args:List Value} {ab mb:Nat} {T T':TypeId} {σ σ':Array UInt64} {X X':Assn} {r:Value} (h:∀ c,∃ c',FnD P f args [X,arenaC ab mb T T' σ c] r [X',arenaC ab mb T T' σ' c']):FnD P f args [X,zar ab mb T T' σ] r [X',zar ab mb T T' σ']:=by
 refine Fn.swapI ?_
 intro w0 R w hs
 obtain ⟨c,hs1⟩:=hs.head_ex
 obtain ⟨c',h1⟩:=h c
 refine (h1 w0 R w hs1.swap2).mono ?_
 rintro e w' ⟨v,Bs,he,⟨rfl,rfl⟩,hs'⟩
 exact ⟨_,_,he,⟨rfl,rfl⟩,(hs'.swap2.head (B:=zar ab mb T T' σ') fun x hx=>⟨c',hx⟩).swap2⟩
set_option maxHeartbeats 2000000 in
theorem zks {a:Option Addr} {n c:Nat} {d:Array Int} (hn:n≤20000) (hsz:d.size=n):Go.Eng.Fn Tryz.prog 117 [.slice a n c] [ownA encI 1 3 (.slice a n c) (d)] (fun v Bs=>∃ d2,Bs=[rowS v d2]∧d2.toList=cpt d n):=by
 refine Fn.enter (Tryz.func117) rfl rfl (fun w0 R=>?_)
 refine sA (TL.asg (.slice none 0 0) rfl rfl rfl (dB (xms rfl (xz zag rfl (TL.lss rfl rfl rfl rfl (fun q1=>?_) (fun q1=>?_))))))
 refine dT rfl (xms rfl (xas rfl (dRR ?_)))
 first | refine TQ.conseq 0 (B:=rowS _ d) rfl (fun _ h=>zek h) ?_ | refine TQ.conseq 0 (B:=rowS (.slice (slA (some ⟨g8,0,none⟩) 0 1 c) k1 c) (D.extract 0 k1)) rfl (fun _ h=>zbb (by rw [Array.size_extract]; omega) (by omega) (fun h9=>by simpa using zfW (size:=1) (fun _=>rfl) hc8 (i:=0) (by omega)) h) ?_
 refine FQ.ret1 (v:=(.slice _ _ _)) (Bs:=[_]) [0] rfl rfl rfl ⟨rfl,trivial⟩ ?_
 exact ⟨d,rfl,zsj hsz (by omega)⟩
 refine TL.done (TQ.then (TC.condF rfl (TC.skip (TQ.then (TC.seq (TC.seq (TC.ownW 0 rfl (fun a8 g8 c8 hv8 hc8 ha8=>?_))))))))
 simp only [Value.slice.injEq] at hv8
 obtain ⟨rfl,_,rfl⟩:=hv8
 obtain rfl:=ha8 (by omega)
 rw [hsz] at hc8
 have haR:0<n→(some ⟨g8,0,none⟩:Option Addr)=some ⟨g8,0,none⟩:=fun _=>rfl
 refine TC.region (xai rfl (dK (TC.loopK (X:=Nat) [0] [0] (fun k=>[(3,.int .i64 ((k:Nat):Int))]) (fun k=>[]) (fun k=>1≤k∧k≤n∧CpA d k) (fun k=>n - k) (1) ⟨Nat.le_refl _,by omega,.start⟩ ⟨rfl,trivial⟩ trivial (fun k hI=>?_))))
 obtain ⟨hk1,hkn,hA⟩:=hI
 refine TC.sub (env':=[(3,_),(0,_)]) (L':=[(0,_)]) ⟨rfl,rfl,trivial⟩ ⟨rfl,trivial⟩ (sB (xmi rfl (xms rfl (xz zag rfl (TL.lss rfl rfl rfl rfl (fun q2=>?_) (fun q2=>?_))))))
 refine TL.done (TQ.then (TC.condT rfl (TC.skip (TQ.then (TC.seq (TC.block (TC.seq (TC.draw [(0,true),(1,true),(2,true),(3,true),(4,true),(5,true),(6,true),(7,true),(8,true),(9,true)] [0] fc_m (by kernel_rfl) ?_))))))))
 refine xms rfl (xmi rfl (TL.iaO rfl haR rfl zag (by omega) rfl rfl (TL.ldRS 0 (.int _ _) rfl rfl (zbM (by omega)) (by omega) (rfl) zae rfl rfl (xms rfl (xmi rfl (TL.sub (((k - 1:Nat):Int)) rfl rfl (wrN (by omega)) rfl rfl (TL.iaO rfl haR rfl zag (by omega) rfl rfl (TL.ldRS 0 (.int _ _) rfl rfl (zbM (by omega)) (by omega) (rfl) zae rfl rfl ?_))))))))
 refine TL.eql rfl rfl rfl rfl (fun q3=>?_) (fun q3=>?_)
 refine dT rfl (xms rfl (xmi rfl (TL.slLo rfl rfl zag (by omega) rfl rfl (xas rfl (dB (xai rfl (dK (TC.loopK (X:=Nat×Nat×Array Int) [0,4] [] (fun ⟨k1,k2,D⟩=>[(3,.int .i64 ((k1:Nat):Int)),(5,.int .i64 ((k2:Nat):Int))]) (fun ⟨k1,k2,D⟩=>[(0,ownA encI 1 3 (.slice (some ⟨g8,0,none⟩) n c) (D))]) (fun ⟨k1,k2,D⟩=>k2≤n - k∧CpI d k k1 k2 D) (fun ⟨k1,k2,D⟩=>n - k2) ((k,1,d)) ⟨(show 1≤n - k by omega),.start hA (by omega) (by assumption)⟩ ⟨rfl,rfl,trivial⟩ ⟨rfl,trivial⟩ (fun y hI=>?_)))))))))
 obtain ⟨k1,k2,D⟩:=y
 obtain ⟨hk2,hI2⟩:=hI
 replace hk2:k2≤n - k:=hk2
 replace hI2:CpI d k k1 k2 D:=hI2
 have hle:=hI2.le
 have hDz:D.size=n:=hI2.sz.trans hsz
 refine TC.sub (env':=[(3,_),(5,_),(0,_),(4,_)]) (L':=[(0,_)]) ⟨rfl,rfl,rfl,rfl,trivial⟩ ⟨rfl,trivial⟩ (sB (xmi rfl (xms rfl (xz zag rfl (TL.lss rfl rfl rfl rfl (fun q4=>?_) (fun q4=>?_))))))
 refine TL.done (TQ.then (TC.condT rfl (TC.skip (TQ.then (TC.seq (TC.block (TC.seq (TC.draw [(0,true),(1,true),(2,true),(3,true),(4,true),(5,true),(6,true),(7,true),(8,true),(9,true)] [0] fc_m (by kernel_rfl) ?_))))))))
 refine xms rfl (xmi rfl (TL.iaO rfl (zfW haR hc8) rfl zag (by omega) rfl rfl (TL.ldRS 0 (.int _ _) rfl rfl ((zbM (by omega)).drop k (n - k) (by omega)) (by omega) (rfl) zae rfl rfl (xms rfl (xmi rfl (TL.sub (((k2 - 1:Nat):Int)) rfl rfl (wrN (by omega)) rfl rfl (TL.iaO rfl (zfW haR hc8) rfl zag (by omega) rfl rfl (TL.ldRS 0 (.int _ _) rfl rfl ((zbM (by omega)).drop k (n - k) (by omega)) (by omega) (rfl) zae rfl rfl ?_))))))))
 refine TL.neq rfl rfl rfl rfl (fun q5=>?_) (fun q5=>?_)
 refine dT rfl (xms rfl (xmi rfl (xms rfl (xmi rfl (TL.iaO rfl (zfW haR hc8) rfl zag (by omega) rfl rfl (TL.ldRS 0 (.int _ _) rfl rfl ((zbM (by omega)).drop k (n - k) (by omega)) (by omega) (rfl) zae rfl rfl (TL.iaO rfl haR rfl zag (by omega) rfl rfl (TL.stOF 0 (o:=0) (i:=k1) (cur:=D[k1]!) (u:=D[k+k2]!) (by rw [hI2.sz]; exact hsz) rfl rfl rfl rfl (by have:=hI2.sz; omega) (rfl) ⟨rfl,rfl⟩ rfl zae rfl rfl trivial ?_))))))))
 refine dG (xmi rfl (TL.add (((k1+1:Nat):Int)) rfl rfl (wrN (by omega)) rfl rfl (xai rfl (dI (xmi rfl (TL.add (((k2+1:Nat):Int)) rfl rfl (wrN (by omega)) rfl rfl (xai rfl (TL.done ?_))))))))
 refine TQ.roundK ((k1+1,k2+1,_)) ⟨⟨(show k2+1≤n - k by omega),hI2.yes (by omega) (by rw [show k+k2 - 1=k+(k2 - 1) by omega]; assumption)⟩,(show n - (k2+1)<n - k2 by omega)⟩ ⟨rfl,rfl,trivial⟩ ⟨rfl,trivial⟩ (kE2 rfl rfl trivial) trivial
 refine TL.done (TQ.then (TC.condF rfl (TC.skip (TQ.inBlock (TQ.then (TC.region (xmi rfl (TL.add (((k2+1:Nat):Int)) rfl rfl (wrN (by omega)) rfl rfl ?_))))))))
 refine xai rfl (TL.done (TQ.roundK ((k1,k2+1,D)) ⟨⟨(show k2+1≤n - k by omega),hI2.no (by rw [show k+k2 - 1=k+(k2 - 1) by omega]; exact Decidable.not_not.1 (by assumption))⟩,(show n - (k2+1)<n - k2 by omega)⟩ ⟨rfl,rfl,trivial⟩ ⟨rfl,trivial⟩ (kE2 rfl rfl trivial) trivial))
 refine dE rfl (TC.seq (TC.ownS 0 (sz:=n) (hI2.sz.trans hsz) rfl (fun a7 g7 c7 hv7 hc7 ha7=>?_)))
 simp only [Value.slice.injEq] at hv7
 obtain ⟨rfl,_,rfl⟩:=hv7
 obtain ⟨rfl,_⟩:=Addr.mk.inj (Option.some.inj (ha7 (by omega)))
 refine TC.region (xms rfl (xmi rfl (TL.slLo rfl rfl zag (by omega) rfl rfl (TL.clr 0 (i:=k1) rfl (fun h=>zfW (fun _=>rfl) hc8 h) (by omega) (hI2.sz.trans hsz) rfl zag zpA ⟨rfl,rfl⟩ rfl rfl trivial (dA (xms rfl (xmi rfl (TL.slHi rfl rfl zag (by omega) rfl rfl ?_))))))))
 refine xas rfl (dR (TQ.blockRet (TQ.thenRet (TQ.thenRet (TQ.blockRet (TQ.thenRet ?_))))))
 first | refine TQ.conseq 0 (B:=rowS _ d) rfl (fun _ h=>zek h) ?_ | refine TQ.conseq 0 (B:=rowS (.slice (slA (some ⟨g8,0,none⟩) 0 1 c) k1 c) (D.extract 0 k1)) rfl (fun _ h=>zbb (by rw [Array.size_extract]; omega) (by omega) (fun h9=>by simpa using zfW (size:=1) (fun _=>rfl) hc8 (i:=0) (by omega)) h) ?_
 refine FQ.ret1 (v:=(.slice _ _ _)) (Bs:=[_]) [0] rfl rfl rfl ⟨rfl,trivial⟩ ?_
 have h9:=(hI2.fin (by omega)).2
 rw [hsz] at h9
 exact ⟨_,rfl,h9⟩
 refine TL.done (TQ.then (TC.condF rfl (TC.skip (TQ.inBlock (TQ.then (TC.region (xmi rfl (TL.add (((k+1:Nat):Int)) rfl rfl (wrN (by omega)) rfl rfl ?_))))))))
 refine xai rfl (TL.done (TQ.roundK (k+1) ⟨⟨by omega,by omega,hA.step (by assumption)⟩,by omega⟩ ⟨rfl,trivial⟩ trivial (kE1 rfl trivial) (kL1 rfl trivial)))
 refine dE rfl (sA (xms rfl (xas rfl (dR ?_))))
 first | refine TQ.conseq 0 (B:=rowS _ d) rfl (fun _ h=>zek h) ?_ | refine TQ.conseq 0 (B:=rowS (.slice (slA (some ⟨g8,0,none⟩) 0 1 c) k1 c) (D.extract 0 k1)) rfl (fun _ h=>zbb (by rw [Array.size_extract]; omega) (by omega) (fun h9=>by simpa using zfW (size:=1) (fun _=>rfl) hc8 (i:=0) (by omega)) h) ?_
 refine FQ.ret1 (v:=(.slice _ _ _)) (Bs:=[_]) [0] rfl rfl rfl ⟨rfl,trivial⟩ ?_
 obtain rfl:k=n:=by omega
 exact ⟨d,rfl,by rw [←hsz]; exact (show CpA d d.size by rw [hsz]; exact hA).all⟩
theorem ziH {x y:Int}:Go.Eng.Fn Tryz.prog 80 [.agg #[.int .i64 x,.int .i64 y]] [] (fun v Bs=>Bs=[rowS v (zaQ x y)]):=by
 refine Fn.enter (Tryz.func80) rfl rfl (fun w0 R=>?_)
 refine sA (xB 0 rfl (fun bk0=>(TL.asg (.slice none 0 0) rfl rfl rfl (dA (TL.iaA (_+0) rfl rfl zaJ (by decide) (by decide) rfl rfl rfl (xli 0 zae rfl rfl (TL.iaA (_+1) rfl rfl zaJ (by decide) (by decide) rfl rfl rfl (xli 0 zae rfl rfl (TL.min2 rfl rfl rfl rfl ?_)))))))))
 refine TL.iaA (_+0) rfl rfl zaJ (by decide) (by decide) rfl rfl rfl (xli 0 zae rfl rfl (TL.iaA (_+1) rfl rfl zaJ (by decide) (by decide) rfl rfl rfl (xli 0 zae rfl rfl (TL.max2 rfl rfl rfl rfl (TL.bsN 1 [_,_] ([.int .i64 (min x y),.int .i64 (max x y)]) zag zpA ⟨rfl,rfl,trivial⟩ rfl (lit2) rfl rfl (fun bk1=>⟨trivial,?_⟩))))))
 refine xas rfl (dA (xms rfl (TL.conseq 1 (B:=ownA encI 1 3 (.slice (some ⟨bk1,0,none⟩) 2 2) (#[min x y,max x y])) rfl (fun h hh=>zpf hh) trivial (TL.call [1] [1] (zks (n:=2) (d:=#[min x y,max x y]) (by decide) rfl) ⟨rfl,trivial⟩ ⟨rfl,trivial⟩ zr5 rfl rfl rfl rfl ?_))))
 rintro v Bs ⟨d2,rfl,hd2⟩
 refine ⟨rfl,trivial,?_⟩
 obtain rfl:d2=zaQ x y:=by rw [←zsh,←hd2]
 refine xav rfl (dR ?_)
 refine FQ.ret1 (v:=_) (Bs:=[_]) [1] rfl rfl rfl ⟨rfl,trivial⟩ ?_
 rfl
theorem zgs {l:Lay} (hl:l.Ok) {tb:Nat} {cv wv hv:Value} {t:TakeS}  : Go.Eng.Fn Tryz.prog 84 [.pointer (some ⟨tb,0,none⟩)] [zbE 130 tb (cv) (wv) (hv) l (t)] (fun x Bs=>∃ cb2,x=.tuple #[]∧Bs=[zbE 130 tb (.pointer (some ⟨cb2,0,none⟩)) (wv) (hv) l (t.begin l),zao 157 189 cb2 l (zaR l t.u)]):=by
 refine Fn.enter (Tryz.func84) rfl rfl (fun w0 R=>?_)
 refine sA (xmp rfl (xN0 rfl (xf 13 zed rfl (xli 0 zae rfl rfl (TL.add _ rfl rfl (rfl) rfl rfl (xN0 rfl (xf 13 zed rfl (TL.st 0 #[_,_,_,_,_,_,_,_,_,_,_,_,_,_] (.int _ _) rfl rfl rfl rfl rfl rfl zae rfl rfl trivial ?_))))))))
 refine dA (xmp rfl (xmp rfl (xN0 rfl (xf 6 za1 rfl (TL.st 0 #[_,_,_,_,_,_,_,_,_,_,_,_,_,_] (.int _ _) rfl rfl rfl rfl rfl rfl zae rfl rfl trivial (xN0 rfl (xf 7 zbZ rfl (TL.st 0 #[_,_,_,_,_,_,_,_,_,_,_,_,_,_] (.int _ _) rfl rfl rfl rfl rfl rfl zae rfl rfl trivial ?_))))))))
 refine TL.done (TQ.then (TC.draw2 [(0,true),(1,true),(2,true),(3,true),(4,true),(5,true),(6,true),(7,true),(8,true),(9,true),(10,false),(11,true),(12,true)] 13 [] [0] fc_m (by kernel_rfl) (xmp rfl (xmp rfl (xN0 rfl (xf 0 zc8 rfl (xL3 0 zaa rfl rfl (xmp rfl ?_))))))))
 refine xN0 rfl (xf 3 zeQ rfl (TL.iaA (_+0) rfl rfl zaJ (by decide) (by decide) rfl rfl rfl (xli 0 zae rfl rfl (TL.call [] [1] (zkt hl) ⟨rfl,rfl,trivial⟩ trivial znI rfl rfl rfl rfl ?_))))
 rintro x Bs ⟨cb,rfl,rfl⟩
 refine ⟨rfl,(kL1 rfl trivial),?_⟩
 refine xN0 rfl (xf 8 zbY rfl (TL.late (TL.st 0 #[_,_,_,_,_,_,_,_,_,_,_,_,_,_] (.pointer (some ⟨_,_,none⟩)) rfl rfl rfl rfl rfl rfl zgS rfl rfl trivial (TL.done ?_))))
 refine FQ.end0 (Bs:=[_,_]) [0,1] rfl rfl ⟨rfl,rfl,trivial⟩ ?_
 exact ⟨_,rfl,rfl⟩
theorem ziL {l:Lay} (hl:l.Ok) {tb cb:Nat} {wv:Value} {ha:Option Addr} {hc:Nat} {t:TakeS}  : Go.Eng.Fn Tryz.prog 83 [.pointer (some ⟨tb,0,none⟩)] [zbE 130 tb (.pointer (some ⟨cb,0,none⟩)) (wv) (.slice ha t.held.size hc) l (t),zao 157 189 cb l (t.climb)] (fun x Bs=>∃ cb2,x=.tuple #[]∧Bs=[zbE 130 tb (.pointer (some ⟨cb2,0,none⟩)) (wv) (.slice ha t.held.size hc) l (t.leave l),zao 157 189 cb2 l ((t.leave l).climb)]):=by
 refine Fn.enter (Tryz.func83) rfl rfl (fun w0 R=>?_)
 refine sA (xmp rfl (xN0 rfl (xf 6 za1 rfl (TL.st 0 #[_,_,_,_,_,_,_,_,_,_,_,_,_,_] (.int _ _) rfl rfl rfl rfl rfl rfl zae rfl rfl trivial (dA (xmp rfl (xN0 rfl (xf 12 za6 rfl ?_))))))))
 refine xls 0 zb2 rfl rfl (xz zag rfl (TL.eql rfl rfl rfl rfl (fun q1=>?_) (fun q1=>?_)))
 refine TL.done (TQ.then (TC.condT rfl (TC.region (xmp rfl (TL.call [0] [0,2] (zgs (t:={ t with at_:=3 }) hl) ⟨rfl,trivial⟩ ⟨rfl,trivial⟩ znH rfl rfl rfl rfl ?_)))))
 rintro x Bs ⟨cb2,rfl,rfl⟩
 refine ⟨rfl,trivial,?_⟩
 refine TL.done ?_
 refine FQ.end0 (Bs:=[_,_]) [0,2] rfl rfl ⟨rfl,rfl,trivial⟩ ?_
 exact ⟨_,rfl,by unfold TakeS.leave; rw [if_pos (by omega)]; rfl⟩
 refine TL.done (TQ.then (TC.condF rfl (TC.skip ?_)))
 refine FQ.end0 (Bs:=[_,_]) [0,1] rfl rfl ⟨rfl,rfl,trivial⟩ ?_
 exact ⟨_,rfl,by unfold TakeS.leave; rw [if_neg (by omega)]; rfl⟩
theorem zmq {l:Lay} (hl:l.Ok) {tb cb ab mb:Nat} {wv hv:Value} {u v th at_ f0 f1 tr:Int} {c:ClimbS} {want held:Array Int} {σ:Array UInt64} {n:Cnt}  : Go.Eng.Fn Tryz.prog 79 [.pointer (some ⟨tb,0,none⟩),.pointer (some ⟨ab,0,none⟩)] [pt tb (.cells #[.int .i64 l.V,.int .i64 l.S,.int .i64 l.T,.int .i64 u,.int .i64 v,.int .i64 th,.int .i64 at_,.int .i64 0,.pointer (some ⟨cb,0,none⟩),.int .i64 f0,.int .i64 f1,wv,hv,.int .i64 tr] 130),zao 157 189 cb l (c),arenaC ab mb 140 71 (σ) (n)] (fun x Bs=>∃ cb2,x=.tuple #[zmG ((⟨u,v,th,at_,0,c,f0,f1,want,held,tr⟩:TakeS).climbs l σ).1 ((⟨u,v,th,at_,0,c,f0,f1,want,held,tr⟩:TakeS).climbs l σ).2,.bool ((⟨u,v,th,at_,0,c,f0,f1,want,held,tr⟩:TakeS).climbs l σ).2]∧Bs=[zbE 130 tb (.pointer (some ⟨cb2,0,none⟩)) (wv) (hv) l (((⟨u,v,th,at_,0,c,f0,f1,want,held,tr⟩:TakeS).climbs l σ).1),zao 157 189 cb2 l (((⟨u,v,th,at_,0,c,f0,f1,want,held,tr⟩:TakeS).climbs l σ).1.climb),arenaC ab mb 140 71 (σ) ((⟨u,v,th,at_,0,c,f0,f1,want,held,tr⟩:TakeS).climb.cnt l σ n)]):=by
 refine Fn.enter (Tryz.func79) rfl rfl (fun w0 R=>?_)
 refine sA (TL.alloc 3 (cs:=#[.int .i64 0,.int .i64 0]) zfJ rfl rfl rfl (fun _=>trivial) (fun bk3=>(xaf rfl (dB (xmp rfl (xN0 rfl (xf 8 zbY rfl (xlp 0 zgS rfl rfl (xmp rfl ?_)))))))))
 refine TL.callD [1,2] [1,2] (zll hl) ⟨rfl,rfl,trivial⟩ ⟨rfl,rfl,trivial⟩ zqp rfl rfl rfl rfl rfl trivial (TL.cases rfl (fun q1=>?_) (fun q1=>?_))
 refine xnt rfl (TL.done (TQ.then (TC.condF rfl (TC.skip (TQ.then (TC.seq (TC.draw2 [(0,true),(1,true),(2,true),(3,true),(4,true),(5,true),(6,true),(7,true),(8,true),(10,true),(11,true),(9,false),(12,true)] 13 [] [0] fc_m (by kernel_rfl) (xmp rfl ?_))))))))
 refine xmp rfl (xN0 rfl (xf 7 zbZ rfl (xli 0 zae rfl rfl (xmp rfl (xN0 rfl (xf 8 zbY rfl (xlp 0 zgS rfl rfl (xN0 rfl ?_))))))))
 refine xf 9 zeP rfl (TL.callD [1] [1] zlm ⟨rfl,trivial⟩ ⟨rfl,trivial⟩ zqo rfl rfl rfl rfl rfl (kL1 rfl trivial) (TL.iaA (_+0) rfl rfl zaJ (by decide) (by decide) rfl rfl rfl (TL.late (TL.st 0 #[_,_,_,_,_,_,_,_,_,_,_,_,_,_] (.int _ _) rfl rfl rfl rfl rfl rfl zae rfl rfl trivial (dB (xmp rfl (xN0 rfl (xf 7 zbZ rfl ?_))))))))
 refine xli 0 zae rfl rfl (TL.cmpT rfl rfl rfl (by decide) rfl rfl (dT rfl (xmp rfl (xN0 rfl (xf 7 zbZ rfl (TL.st 0 #[_,_,_,_,_,_,_,_,_,_,_,_,_,_] (.int _ _) rfl rfl rfl rfl rfl rfl zae rfl rfl trivial (dS (TC.draw2 [(0,true),(1,true),(2,true),(3,true),(4,true),(5,true),(6,true),(7,true),(8,true),(9,true),(10,false),(11,true),(12,true)] 13 [] [0] fc_m (by kernel_rfl) ?_))))))))
 refine xmp rfl (xmp rfl (xN0 rfl (xf 0 zc8 rfl (xL3 0 zaa rfl rfl (xmp rfl (xN0 rfl (xf 3 zeQ rfl (TL.iaA (_+1) rfl rfl zaJ (by decide) (by decide) rfl rfl rfl ?_))))))))
 refine xli 0 zae rfl rfl (TL.call [] [4] (zkt hl) ⟨rfl,rfl,trivial⟩ trivial znI rfl rfl rfl rfl ?_)
 rintro x Bs ⟨cb,rfl,rfl⟩
 refine ⟨rfl,(kL1 rfl trivial),?_⟩
 refine xN0 rfl (xf 8 zbY rfl (TL.late (TL.st 0 #[_,_,_,_,_,_,_,_,_,_,_,_,_,_] (.pointer (some ⟨_,_,none⟩)) rfl rfl rfl rfl rfl rfl zgS rfl rfl trivial (dA (xL2 3 za2 rfl rfl (TL.stW 3 2 [_,_] rfl rfl rfl rfl rfl rfl za2 rfl rfl trivial (xaf rfl (dRR ?_))))))))
 refine FQ.retG (rs:=[.cell 4 128,.tmp 5]) [(.agg _),(.bool false)] (Bs:=[_,_,_]) [0,4,2] rfl ⟨⟨_,_,_,_,_,3,rfl,rfl,.inr ⟨2,[_,_],za2,rfl,rfl⟩⟩,rfl,trivial⟩ rfl rfl ⟨rfl,rfl,rfl,trivial⟩ ?_
 have d2:(c.stp l σ).done=true:=by simpa using q1
 exact ⟨_,by rw [TakeS.climbs_b d2 rfl]; rfl,by rw [TakeS.climbs_b d2 rfl]; rfl⟩
 refine xnf rfl (dT rfl (xL2 3 za2 rfl rfl (TL.stW 3 2 [_,_] rfl rfl rfl rfl rfl rfl za2 rfl rfl trivial (xaf rfl (dRR ?_)))))
 refine FQ.retG (rs:=[.cell 4 128,.tmp 5]) [(.agg _),(.bool false)] (Bs:=[_,_,_]) [0,1,2] rfl ⟨⟨_,_,_,_,_,3,rfl,rfl,.inr ⟨2,[_,_],za2,rfl,rfl⟩⟩,rfl,trivial⟩ rfl rfl ⟨rfl,rfl,rfl,trivial⟩ ?_
 have d2:(c.stp l σ).done=false:=by simpa using q1
 exact ⟨_,by rw [TakeS.climbs_a d2]; rfl,by rw [TakeS.climbs_a d2]; rfl⟩
theorem zmp {l:Lay} (hl:l.Ok) {tb cb ab mb:Nat} {wv hv:Value} {u v th at_ f0 f1 tr:Int} {c:ClimbS} {want held:Array Int} {σ:Array UInt64} {n:Cnt}  : Go.Eng.Fn Tryz.prog 79 [.pointer (some ⟨tb,0,none⟩),.pointer (some ⟨ab,0,none⟩)] [pt tb (.cells #[.int .i64 l.V,.int .i64 l.S,.int .i64 l.T,.int .i64 u,.int .i64 v,.int .i64 th,.int .i64 at_,.int .i64 1,.pointer (some ⟨cb,0,none⟩),.int .i64 f0,.int .i64 f1,wv,hv,.int .i64 tr] 130),zao 157 189 cb l (c),arenaC ab mb 140 71 (σ) (n)] (fun x Bs=>∃ cb2,x=.tuple #[zmG ((⟨u,v,th,at_,1,c,f0,f1,want,held,tr⟩:TakeS).climbs l σ).1 ((⟨u,v,th,at_,1,c,f0,f1,want,held,tr⟩:TakeS).climbs l σ).2,.bool ((⟨u,v,th,at_,1,c,f0,f1,want,held,tr⟩:TakeS).climbs l σ).2]∧Bs=[zbE 130 tb (.pointer (some ⟨cb2,0,none⟩)) (wv) (hv) l (((⟨u,v,th,at_,1,c,f0,f1,want,held,tr⟩:TakeS).climbs l σ).1),zao 157 189 cb2 l (((⟨u,v,th,at_,1,c,f0,f1,want,held,tr⟩:TakeS).climbs l σ).1.climb),arenaC ab mb 140 71 (σ) ((⟨u,v,th,at_,1,c,f0,f1,want,held,tr⟩:TakeS).climb.cnt l σ n)]):=by
 refine Fn.enter (Tryz.func79) rfl rfl (fun w0 R=>?_)
 refine sA (TL.alloc 3 (cs:=#[.int .i64 0,.int .i64 0]) zfJ rfl rfl rfl (fun _=>trivial) (fun bk3=>(xaf rfl (dB (xmp rfl (xN0 rfl (xf 8 zbY rfl (xlp 0 zgS rfl rfl (xmp rfl ?_)))))))))
 refine TL.callD [1,2] [1,2] (zll hl) ⟨rfl,rfl,trivial⟩ ⟨rfl,rfl,trivial⟩ zqp rfl rfl rfl rfl rfl trivial (TL.cases rfl (fun q1=>?_) (fun q1=>?_))
 refine xnt rfl (TL.done (TQ.then (TC.condF rfl (TC.skip (TQ.then (TC.seq (TC.draw2 [(0,true),(1,true),(2,true),(3,true),(4,true),(5,true),(6,true),(7,true),(8,true),(10,true),(11,true),(9,false),(12,true)] 13 [] [0] fc_m (by kernel_rfl) (xmp rfl ?_))))))))
 refine xmp rfl (xN0 rfl (xf 7 zbZ rfl (xli 0 zae rfl rfl (xmp rfl (xN0 rfl (xf 8 zbY rfl (xlp 0 zgS rfl rfl (xN0 rfl ?_))))))))
 refine xf 9 zeP rfl (TL.callD [1] [1] zlm ⟨rfl,trivial⟩ ⟨rfl,trivial⟩ zqo rfl rfl rfl rfl rfl (kL1 rfl trivial) (TL.iaA (_+1) rfl rfl zaJ (by decide) (by decide) rfl rfl rfl (TL.late (TL.st 0 #[_,_,_,_,_,_,_,_,_,_,_,_,_,_] (.int _ _) rfl rfl rfl rfl rfl rfl zae rfl rfl trivial (dB (xmp rfl (xN0 rfl (xf 7 zbZ rfl ?_))))))))
 refine xli 0 zae rfl rfl (TL.cmpF rfl rfl rfl (by decide) rfl rfl (dF rfl (xmp rfl (xN0 rfl (xf 7 zbZ rfl (TL.st 0 #[_,_,_,_,_,_,_,_,_,_,_,_,_,_] (.int _ _) rfl rfl rfl rfl rfl rfl zae rfl rfl trivial (dS (TC.draw2 [(0,true),(1,true),(2,true),(3,true),(4,true),(5,true),(6,true),(7,true),(8,true),(9,true),(10,false),(11,true),(12,true)] 13 [] [0] fc_m (by kernel_rfl) ?_))))))))
 refine xmp rfl (xmp rfl (xN0 rfl (xf 0 zc8 rfl (xL3 0 zaa rfl rfl (xmp rfl (xN0 rfl (xf 3 zeQ rfl (TL.iaA (_+0) rfl rfl zaJ (by decide) (by decide) rfl rfl rfl ?_))))))))
 refine xli 0 zae rfl rfl (TL.call [] [4] (zkt hl) ⟨rfl,rfl,trivial⟩ trivial znI rfl rfl rfl rfl ?_)
 rintro x Bs ⟨cb,rfl,rfl⟩
 refine ⟨rfl,(kL1 rfl trivial),?_⟩
 refine xN0 rfl (xf 8 zbY rfl (TL.late (TL.st 0 #[_,_,_,_,_,_,_,_,_,_,_,_,_,_] (.pointer (some ⟨_,_,none⟩)) rfl rfl rfl rfl rfl rfl zgS rfl rfl trivial (dA (xmp rfl (xN0 rfl (xf 9 zeP rfl (xL2 0 za2 rfl rfl ?_))))))))
 refine TL.stW 3 2 [_,_] rfl rfl rfl rfl rfl rfl za2 rfl rfl trivial (xat rfl (dR ?_))
 refine FQ.retG (rs:=[.cell 4 128,.tmp 5]) [(.agg _),(.bool true)] (Bs:=[_,_,_]) [0,4,2] rfl ⟨⟨_,_,_,_,_,3,rfl,rfl,.inr ⟨2,[_,_],za2,rfl,rfl⟩⟩,rfl,trivial⟩ rfl rfl ⟨rfl,rfl,rfl,trivial⟩ ?_
 have d2:(c.stp l σ).done=true:=by simpa using q1
 exact ⟨_,by rw [TakeS.climbs_c d2 (show (1:Int)≠0 by decide)]; rfl,by rw [TakeS.climbs_c d2 (show (1:Int)≠0 by decide)]; rfl⟩
 refine xnf rfl (dT rfl (xL2 3 za2 rfl rfl (TL.stW 3 2 [_,_] rfl rfl rfl rfl rfl rfl za2 rfl rfl trivial (xaf rfl (dRR ?_)))))
 refine FQ.retG (rs:=[.cell 4 128,.tmp 5]) [(.agg _),(.bool false)] (Bs:=[_,_,_]) [0,1,2] rfl ⟨⟨_,_,_,_,_,3,rfl,rfl,.inr ⟨2,[_,_],za2,rfl,rfl⟩⟩,rfl,trivial⟩ rfl rfl ⟨rfl,rfl,rfl,trivial⟩ ?_
 have d2:(c.stp l σ).done=false:=by simpa using q1
 exact ⟨_,by rw [TakeS.climbs_a d2]; rfl,by rw [TakeS.climbs_a d2]; rfl⟩
theorem zhr {l:Lay} (hl:l.Ok) {tb cb ab mb:Nat} {wv hv:Value} {t:TakeS} {σ:Array UInt64} {n:Cnt} (hw:t.which=0∨t.which=1):Go.Eng.Fn Tryz.prog 79 [.pointer (some ⟨tb,0,none⟩),.pointer (some ⟨ab,0,none⟩)] [zbE 130 tb (.pointer (some ⟨cb,0,none⟩)) (wv) (hv) l (t),zao 157 189 cb l (t.climb),arenaC ab mb 140 71 (σ) (n)] (fun x Bs=>∃ cb2,x=.tuple #[zmG (t.climbs l σ).1 (t.climbs l σ).2,.bool (t.climbs l σ).2]∧Bs=[zbE 130 tb (.pointer (some ⟨cb2,0,none⟩)) (wv) (hv) l ((t.climbs l σ).1),zao 157 189 cb2 l ((t.climbs l σ).1.climb),arenaC ab mb 140 71 (σ) (t.climb.cnt l σ n)]):=by
 obtain ⟨u,v,th,at_,w,c,f0,f1,want,held,tr⟩:=t
 obtain rfl | rfl:w=0∨w=1:=hw
 ·exact zmq hl
 ·exact zmp hl
theorem zcm {l:Lay} {tb:Nat} {cv wv hv:Value} {t:TakeS}  : FnD Tryz.prog 19 [.pointer (some ⟨tb,0,none⟩)] [zbE 130 tb (cv) (wv) (hv) l (t)] (.bool (decide (t.at_=4))) [zbE 130 tb (cv) (wv) (hv) l (t)]:=by
 refine Fn.enter (Tryz.func19) rfl rfl (fun w0 R=>?_)
 refine sA (xaf rfl (dA (xmp rfl (xN0 rfl (xf 6 za1 rfl (xli 0 zae rfl rfl (TL.eqlV rfl rfl rfl rfl (xab rfl ?_))))))))
 refine dR ?_
 refine FQ.ret1 (v:=(.bool _)) (Bs:=[_]) [0] rfl rfl rfl ⟨rfl,trivial⟩ ?_
 exact ⟨rfl,rfl⟩
theorem TakeS.stp_m {l:Lay} {σ:Array UInt64} {t:TakeS} (ha:t.at_=1) (hb:0≤l.field t.want[t.held.size]! 0∧l.field t.want[t.held.size]! 0<σ.size) (h:(zhY σ (l.field t.want[t.held.size]! 0) 0 t.thread).1=false):t.stp l σ=(t.leave l,σ)∧(zhY σ (l.field t.want[t.held.size]! 0) 0 t.thread).2=σ:=by
 unfold zhY at h ⊢
 by_cases h2:MemLike.get σ (l.field t.want[t.held.size]! 0)=0
 ·rw [if_pos ⟨hb,h2⟩] at h; cases h
 ·rw [if_neg (fun q=>h2 q.2)]
  refine ⟨?_,rfl⟩
  unfold TakeS.stp; rw [if_neg (by omega),if_pos ha]; dsimp only; rw [if_neg (fun q=>h2 q.1)]
theorem TakeS.stp_want1 {l:Lay} {σ:Array UInt64} {t:TakeS} (ha:t.at_=1):(t.stp l σ).1.want=t.want:=by
 unfold TakeS.stp; rw [if_neg (by omega),if_pos ha]; dsimp only
 split
 ·rfl
 ·exact TakeS.leave_want
theorem TakeS.stp_h {l:Lay} {σ:Array UInt64} {t:TakeS} (ha:t.at_=1) (hb:0≤l.field t.want[t.held.size]! 0∧l.field t.want[t.held.size]! 0<σ.size) (h:(zhY σ (l.field t.want[t.held.size]! 0) 0 t.thread).1=true):t.stp l σ=({ t with held:=t.held++#[t.want[t.held.size]!],at_:=if (t.held++#[t.want[t.held.size]!]).size=t.want.size then 2 else 1 },(zhY σ (l.field t.want[t.held.size]! 0) 0 t.thread).2):=by
 unfold zhY at h ⊢
 by_cases h2:MemLike.get σ (l.field t.want[t.held.size]! 0)=0
 ·rw [if_pos (And.intro hb h2)]
  unfold TakeS.stp; rw [if_neg (by omega),if_pos ha]; dsimp only; rw [if_pos (And.intro h2 hb.1)]
 ·rw [if_neg (fun q=>h2 q.2)] at h; cases h
theorem zoT {l:Lay} (hl:l.Ok) {tb cb ab mb wb wo wc hc:Nat} {wa ha:Option Addr} {t:TakeS} {σ:Array UInt64} {n:Cnt} (hwa:0<t.want.size→wa=some ⟨wb,wo,none⟩) (hat:t.at_=1) (hlt:t.held.size<t.want.size) (hle:t.want.size≤2) (hth:1≤t.thread∧t.thread≤8) (hb:0≤l.field t.want[t.held.size]! 0∧l.field t.want[t.held.size]! 0<σ.size)  : Go.Eng.Fn Tryz.prog 81 [.pointer (some ⟨tb,0,none⟩),.pointer (some ⟨ab,0,none⟩)] [zbE 130 tb (.pointer (some ⟨cb,0,none⟩)) (.slice wa t.want.size wc) (.slice ha t.held.size hc) l (t),zao 157 189 cb l ((t).climb),rowW encI 1 wb wo t.want.size t.want,ownA encI 1 3 (.slice ha t.held.size hc) ((t).held),arenaC ab mb 140 71 (σ) (n)] (fun x Bs=>∃ cb2 hv2,x=.tuple #[]∧Bs=[zbE 130 tb (.pointer (some ⟨cb2,0,none⟩)) (.slice wa t.want.size wc) (hv2) l ((t.stp l σ).1),zao 157 189 cb2 l (((t.stp l σ).1).climb),rowW encI 1 wb wo t.want.size t.want,ownA encI 1 3 (hv2) (((t.stp l σ).1).held),arenaC ab mb 140 71 ((t.stp l σ).2) (t.cnt l σ n)]):=by
 refine Fn.enter (Tryz.func81) rfl rfl (fun w0 R=>?_)
 refine TC.seq (TC.draw [(0,true),(1,true),(2,true),(3,true),(4,true),(5,true),(6,true),(7,true),(8,true),(9,true),(10,true),(11,true)] [0,2] fc_m (by kernel_rfl) (xmp rfl (xN0 rfl (xf 11 zcy rfl (xls 0 zb2 rfl rfl (xmp rfl (xN0 rfl (xf 12 za6 rfl ?_))))))))
 refine xls 0 zb2 rfl rfl (xz zag rfl (TL.iaO rfl hwa rfl zag (by omega) rfl rfl (TL.ldRS 2 (.int _ _) rfl rfl zcV (by omega) (rfl) zae rfl rfl (xai rfl (dS (TC.seq (TC.draw [(0,true),(1,true),(2,true),(3,true),(4,true),(5,true),(7,true),(8,true),(9,true),(10,true),(11,true),(6,false),(12,false),(13,true),(14,true),(15,true),(16,true),(17,true)] [0] fc_m (by kernel_rfl) (xmp rfl ?_))))))))
 refine xmp rfl (xN0 rfl (xf 0 zc8 rfl (xL3 0 zaa rfl rfl (xmi rfl (xmp rfl (xN0 rfl (xf 5 zki rfl (xli 0 zae rfl rfl ?_))))))))
 refine TL.conv _ rfl zeM zaX (zoR (by omega)) rfl rfl (TL.callD [] [] (zaE hl) ⟨rfl,rfl,rfl,trivial⟩ trivial zbm rfl rfl rfl rfl rfl (kL1 rfl trivial) (TL.callD [4] [4] (zpN (by decide) (by omega)) ⟨rfl,rfl,rfl,rfl,trivial⟩ ⟨rfl,trivial⟩ zr4 rfl rfl rfl rfl rfl (kL1 rfl trivial) (xmu rfl (TL.ext (.bool _) rfl rfl rfl rfl (xei rfl rfl (xab rfl (xai rfl (dA ?_))))))))
 refine xmb rfl (TL.cases rfl (fun q1=>?_) (fun q1=>?_))
 refine xnt rfl (dF rfl (xmp rfl (xmp rfl (xN0 rfl (xf 12 za6 rfl (xls 0 zb2 rfl rfl (xmi rfl (TL.bsN 5 [_] (encI t.want[t.held.size]!) zag zpA ⟨rfl,trivial⟩ rfl (lit1 rfl) rfl rfl (fun bk5=>⟨trivial,?_⟩)))))))))
 refine TL.appS 3 5 (d2:=#[t.want[t.held.size]!]) rfl (rfl) rfl (fun _=>rfl) rfl rfl (row1 rfl) zlj (by decide) zhE (by simp; omega) rfl rfl (fun v6=>⟨trivial,?_⟩)
 refine TL.ownW 3 rfl (fun a9 g9 c9 hv9 _ _=>?_)
 cases hv9
 refine xN0 rfl (xf 12 za6 rfl (TL.st 0 #[_,_,_,_,_,_,_,_,_,_,_,_,_,_] _ rfl rfl rfl rfl rfl rfl zb2 rfl rfl trivial (dS (TC.draw [(0,true),(1,true),(2,true),(3,true),(4,true),(5,true),(6,true),(7,true),(8,true),(9,true),(10,true)] [0] fc_m (by kernel_rfl) (xmp rfl (xN0 rfl (xf 12 za6 rfl (xlv 0 zb2 rfl rfl ?_))))))))
 refine xz zag rfl (xmp rfl (xN0 rfl (xf 11 zcy rfl (xls 0 zb2 rfl rfl (xz zag rfl (TL.eql rfl rfl rfl rfl (fun q2=>?_) (fun q2=>?_)))))))
 refine TL.done (TQ.then (TC.condT rfl (TC.region (xmp rfl (xN0 rfl (xf 6 za1 rfl (TL.st 0 #[_,_,_,_,_,_,_,_,_,_,_,_,_,_] (.int _ _) rfl rfl rfl rfl rfl rfl zae rfl rfl trivial (TL.done ?_))))))))
 refine FQ.end0 (Bs:=[_,_,_,_,_]) [0,1,2,3,4] rfl rfl ⟨rfl,rfl,rfl,rfl,rfl,trivial⟩ ?_
 have h9:=TakeS.stp_h hat hb (by simpa using q1)
 exact ⟨_,_,rfl,by rw [h9,TakeS.cnt_1 hat,if_pos (by omega)]; rfl⟩
 refine TL.done (TQ.then (TC.condF rfl (TC.skip ?_)))
 refine FQ.end0 (Bs:=[_,_,_,_,_]) [0,1,2,3,4] rfl rfl ⟨rfl,rfl,rfl,rfl,rfl,trivial⟩ ?_
 have h9:=TakeS.stp_h hat hb (by simpa using q1)
 exact ⟨_,_,rfl,by rw [h9,TakeS.cnt_1 hat,if_neg (by omega),←hat]; rfl⟩
 refine xnf rfl (dT rfl (xmp rfl (TL.call [0,1] [0,1] (ziL hl) ⟨rfl,trivial⟩ ⟨rfl,rfl,trivial⟩ zqh rfl rfl rfl rfl ?_)))
 rintro x Bs ⟨cb2,rfl,rfl⟩
 refine ⟨rfl,trivial,?_⟩
 refine dRR ?_
 refine FQ.ret0 (Bs:=[_,_,_,_,_]) [0,1,2,3,4] rfl rfl ⟨rfl,rfl,rfl,rfl,rfl,trivial⟩ ?_
 have h9:=TakeS.stp_m hat hb (by simpa using q1)
 exact ⟨cb2,_,rfl,by rw [h9.1,TakeS.cnt_1 hat,h9.2]; dsimp only; rw [TakeS.leave_held]⟩
set_option maxHeartbeats 1000000 in
theorem zqO {l:Lay} (hl:l.Ok) {tb cb ab mb wb wo wc hc hbk:Nat} {wa ha:Option Addr} {t:TakeS} {σ:Array UInt64} {n:Cnt} (hwa:0<t.want.size→wa=some ⟨wb,wo,none⟩) (hwc:t.want.size≤wc) (hha:0<t.held.size→ha=some ⟨hbk,0,none⟩) (hhc:t.held.size≤hc) (hat:t.at_=0) (hw:t.which=0∨t.which=1):Go.Eng.Fn Tryz.prog 18 [.pointer (some ⟨tb,0,none⟩),.pointer (some ⟨ab,0,none⟩)] [zbE 130 tb (.pointer (some ⟨cb,0,none⟩)) (.slice wa t.want.size wc) (.slice ha t.held.size hc) l (t),zao 157 189 cb l ((t).climb),rowW encI 1 wb wo t.want.size t.want,ownA encI 1 3 (.slice ha t.held.size hc) ((t).held),arenaC ab mb 140 71 (σ) (n)] (fun x Bs=>∃ cb2 wv2 hv2,x=.bool (decide ((t.stp l σ).1.at_=4))∧Bs=[zbE 130 tb (.pointer (some ⟨cb2,0,none⟩)) (wv2) (hv2) l ((t.stp l σ).1),zao 157 189 cb2 l (((t.stp l σ).1).climb),rowS wv2 ((t.stp l σ).1).want,ownA encI 1 3 (hv2) (((t.stp l σ).1).held),arenaC ab mb 140 71 ((t.stp l σ).2) (t.cnt l σ n)]):=by
 have h3:=TakeS.climbs_st (l:=l) (σ:=σ) (t:=t)
 refine Fn.enter (Tryz.func18) rfl rfl (fun w0 R=>?_)
 refine sA (xaf rfl (dB (xmp rfl (xN0 rfl (xf 6 za1 rfl (xli 0 zae rfl rfl (dK (sA ?_))))))))
 refine TL.eqlT rfl rfl hat rfl rfl (xat rfl (dT rfl (xmp rfl (xmp rfl (TL.call [0,1,4] [0,1,4] (zhr hl hw) ⟨rfl,rfl,trivial⟩ ⟨rfl,rfl,rfl,trivial⟩ zqj rfl rfl rfl rfl ?_)))))
 rintro x Bs ⟨cb2,rfl,rfl⟩
 refine ⟨rfl,trivial,?_⟩
 refine xmu rfl (TL.ext (.agg _) rfl rfl rfl rfl (TL.ext (.bool _) rfl rfl rfl rfl (TL.alloc 5 (cs:=#[.int .i64 0,.int .i64 0]) zfJ rfl rfl rfl (fun _=>trivial) (fun bk5=>(TL.stW 5 2 [_,_] rfl rfl rfl rfl rfl rfl za2 rfl rfl trivial (xab rfl (dA (xmb rfl (TL.cases rfl (fun q1=>?_) (fun q1=>?_))))))))))
 refine TL.done (TQ.then (TC.condT rfl (TC.region (xmp rfl (xmp rfl (xL2 5 za2 rfl rfl (TL.call [] [6] ziH ⟨rfl,trivial⟩ trivial zqi rfl rfl rfl rfl ?_)))))))
 rintro v Bs rfl
 refine ⟨rfl,trivial,?_⟩
 rw [if_pos q1,if_pos q1]
 refine TL.rowS 6 rfl (fun a7 b7 o7 c7 hv7 hc7 ha7=>⟨trivial,?_⟩)
 cases hv7
 refine xN0 rfl (xf 11 zcy rfl (TL.st 0 #[_,_,_,_,_,_,_,_,_,_,_,_,_,_] (.slice _ _ _) rfl rfl rfl rfl rfl rfl zb2 rfl rfl trivial (xN0 rfl (xf 6 za1 rfl (TL.st 0 #[_,_,_,_,_,_,_,_,_,_,_,_,_,_] (.int _ _) rfl rfl rfl rfl rfl rfl zae rfl rfl trivial (TL.done (TQ.inBlock (TQ.then ?_))))))))
 refine sA (xmp rfl (TL.callD [0] [0] (zcm (t:={ (t.climbs l σ).1 with at_:=1 })) ⟨rfl,trivial⟩ ⟨rfl,trivial⟩ zdz rfl rfl rfl rfl rfl trivial (xab rfl (dR ?_))))
 first | refine TQ.conseq 6 (B:=rowS (.slice wa t.want.size wc) t.want) rfl (fun _ h=>zbb rfl hwc hwa h) ?_ | refine TQ.conseq 6 (B:=rowS (.slice a7 _ c7) _) rfl (fun _ h=>zbb rfl hc7 ha7 h) ?_
 refine FQ.ret1 (v:=(.bool _)) (Bs:=[_,_,_,_,_]) [0,1,6,3,4] rfl rfl rfl ⟨rfl,rfl,rfl,rfl,rfl,trivial⟩ ?_
 have h9:=TakeS.stp_0b hat q1
 exact ⟨cb2,_,_,by rw [h9],by rw [h9,TakeS.cnt_0 (.inl hat)]; dsimp only; rw [h3.2.1]; rfl⟩
 refine TL.done (TQ.then (TC.condF rfl (TC.skip (TQ.inBlock (TQ.then (sA (xmp rfl (TL.callD [0] [0] zcm ⟨rfl,trivial⟩ ⟨rfl,trivial⟩ zdz rfl rfl rfl rfl rfl trivial ?_))))))))
 refine xab rfl (dR ?_)
 first | refine TQ.conseq 2 (B:=rowS (.slice wa t.want.size wc) t.want) rfl (fun _ h=>zbb rfl hwc hwa h) ?_ | refine TQ.conseq 2 (B:=rowS (.slice a7 _ c7) _) rfl (fun _ h=>zbb rfl hc7 ha7 h) ?_
 refine FQ.ret1 (v:=(.bool _)) (Bs:=[_,_,_,_,_]) [0,1,2,3,4] rfl rfl rfl ⟨rfl,rfl,rfl,rfl,rfl,trivial⟩ ?_
 have h9:=TakeS.stp_0a hat (by simpa using q1)
 exact ⟨cb2,_,_,by rw [h9],by rw [h9,TakeS.cnt_0 (.inl hat)]; dsimp only; rw [h3.2.1,h3.2.2]⟩
set_option maxHeartbeats 1000000 in
theorem zqN {l:Lay} (hl:l.Ok) {tb cb ab mb wb wo wc hc hbk:Nat} {wa ha:Option Addr} {t:TakeS} {σ:Array UInt64} {n:Cnt} (hwa:0<t.want.size→wa=some ⟨wb,wo,none⟩) (hwc:t.want.size≤wc) (hha:0<t.held.size→ha=some ⟨hbk,0,none⟩) (hhc:t.held.size≤hc) (hat:t.at_=1) (hlt:t.held.size<t.want.size) (hle:t.want.size≤2) (hth:1≤t.thread∧t.thread≤8) (hb:0≤l.field t.want[t.held.size]! 0∧l.field t.want[t.held.size]! 0<σ.size)  : Go.Eng.Fn Tryz.prog 18 [.pointer (some ⟨tb,0,none⟩),.pointer (some ⟨ab,0,none⟩)] [zbE 130 tb (.pointer (some ⟨cb,0,none⟩)) (.slice wa t.want.size wc) (.slice ha t.held.size hc) l (t),zao 157 189 cb l ((t).climb),rowW encI 1 wb wo t.want.size t.want,ownA encI 1 3 (.slice ha t.held.size hc) ((t).held),arenaC ab mb 140 71 (σ) (n)] (fun x Bs=>∃ cb2 wv2 hv2,x=.bool (decide ((t.stp l σ).1.at_=4))∧Bs=[zbE 130 tb (.pointer (some ⟨cb2,0,none⟩)) (wv2) (hv2) l ((t.stp l σ).1),zao 157 189 cb2 l (((t.stp l σ).1).climb),rowS wv2 ((t.stp l σ).1).want,ownA encI 1 3 (hv2) (((t.stp l σ).1).held),arenaC ab mb 140 71 ((t.stp l σ).2) (t.cnt l σ n)]):=by
 have hws:(t.stp l σ).1.want=t.want:=TakeS.stp_want1 hat
 refine Fn.enter (Tryz.func18) rfl rfl (fun w0 R=>?_)
 refine sA (xaf rfl (dB (xmp rfl (xN0 rfl (xf 6 za1 rfl (xli 0 zae rfl rfl (dK (sA ?_))))))))
 refine TL.eqlF rfl rfl (by omega) rfl rfl (xaf rfl (TL.done (TQ.then (TC.condF rfl (sA (TL.eqlT rfl rfl hat rfl rfl (xat rfl (TL.done ?_))))))))
 refine TQ.then (TC.condT rfl (TC.region (xmp rfl (xmp rfl (TL.call [0,1,2,3,4] [0,1,2,3,4] (zoT hl hwa hat hlt hle hth hb) ⟨rfl,rfl,trivial⟩ ⟨rfl,rfl,rfl,rfl,rfl,trivial⟩ ztm rfl rfl rfl rfl ?_)))))
 rintro x Bs ⟨cb2,hv2,rfl,rfl⟩
 refine ⟨rfl,trivial,?_⟩
 refine TL.done (TQ.inBlock (TQ.then (sA (xmp rfl (TL.callD [0] [0] zcm ⟨rfl,trivial⟩ ⟨rfl,trivial⟩ zdz rfl rfl rfl rfl rfl trivial (xab rfl (dR (TQ.conseq 2 (B:=rowS (.slice wa t.want.size wc) t.want) rfl (fun _ h=>zbb rfl hwc hwa h) ?_))))))))
 refine FQ.ret1 (v:=(.bool _)) (Bs:=[_,_,_,_,_]) [0,1,2,3,4] rfl rfl rfl ⟨rfl,rfl,rfl,rfl,rfl,trivial⟩ ?_
 exact ⟨cb2,_,hv2,rfl,by rw [hws]⟩
set_option maxHeartbeats 1000000 in
theorem zqM {l:Lay} (hl:l.Ok) {tb cb ab mb wb wo wc hc hbk:Nat} {wa ha:Option Addr} {t:TakeS} {σ:Array UInt64} {n:Cnt} (hwa:0<t.want.size→wa=some ⟨wb,wo,none⟩) (hwc:t.want.size≤wc) (hha:0<t.held.size→ha=some ⟨hbk,0,none⟩) (hhc:t.held.size≤hc) (hat:t.at_=2) (hw:t.which=0∨t.which=1) (hle:t.want.size≤2):Go.Eng.Fn Tryz.prog 18 [.pointer (some ⟨tb,0,none⟩),.pointer (some ⟨ab,0,none⟩)] [zbE 130 tb (.pointer (some ⟨cb,0,none⟩)) (.slice wa t.want.size wc) (.slice ha t.held.size hc) l (t),zao 157 189 cb l ((t).climb),rowW encI 1 wb wo t.want.size t.want,ownA encI 1 3 (.slice ha t.held.size hc) ((t).held),arenaC ab mb 140 71 (σ) (n)] (fun x Bs=>∃ cb2 wv2 hv2,x=.bool (decide ((t.stp l σ).1.at_=4))∧Bs=[zbE 130 tb (.pointer (some ⟨cb2,0,none⟩)) (wv2) (hv2) l ((t.stp l σ).1),zao 157 189 cb2 l (((t.stp l σ).1).climb),rowS wv2 ((t.stp l σ).1).want,ownA encI 1 3 (hv2) (((t.stp l σ).1).held),arenaC ab mb 140 71 ((t.stp l σ).2) (t.cnt l σ n)]):=by
 have h3:=TakeS.climbs_st (l:=l) (σ:=σ) (t:=t)
 refine Fn.enter (Tryz.func18) rfl rfl (fun w0 R=>?_)
 refine sA (xaf rfl (dB (xmp rfl (xN0 rfl (xf 6 za1 rfl (xli 0 zae rfl rfl (dK (sA ?_))))))))
 refine TL.eqlF rfl rfl (by omega) rfl rfl (xaf rfl (TL.done (TQ.then (TC.condF rfl (sA (TL.eqlF rfl rfl (by omega) rfl rfl (xaf rfl (TL.done ?_))))))))
 refine TQ.then (TC.condF rfl (sA (TL.eqlT rfl rfl hat rfl rfl (xat rfl (dT rfl (xmp rfl (xmp rfl (TL.call [0,1,4] [0,1,4] (zhr hl hw) ⟨rfl,rfl,trivial⟩ ⟨rfl,rfl,rfl,trivial⟩ zqj rfl rfl rfl rfl ?_))))))))
 rintro x Bs ⟨cb2,rfl,rfl⟩
 refine ⟨rfl,trivial,?_⟩
 refine xmu rfl (TL.ext (.agg _) rfl rfl rfl rfl (TL.ext (.bool _) rfl rfl rfl rfl (TL.alloc 5 (cs:=#[.int .i64 0,.int .i64 0]) zfJ rfl rfl rfl (fun _=>trivial) (fun bk5=>(TL.stW 5 2 [_,_] rfl rfl rfl rfl rfl rfl za2 rfl rfl trivial (xab rfl (dK (sA (xmb rfl ?_)))))))))
 refine TL.cases rfl (fun q1=>?_) (fun q1=>?_)
 refine xnt rfl (xaf rfl (TL.done (TQ.then (TC.condF rfl (TC.seq (TC.draw [(0,true),(2,true),(3,true),(4,true),(5,true),(1,false),(6,false),(7,true)] [0,5] fc_m (by kernel_rfl) (xL2 5 za2 rfl rfl (xmp rfl ?_))))))))
 refine xN0 rfl (xf 11 zcy rfl (xls 0 zb2 rfl rfl (TL.call [] [6] ziH ⟨rfl,trivial⟩ trivial zqi rfl rfl rfl rfl ?_)))
 rintro v Bs rfl
 refine ⟨rfl,(kL2 rfl rfl trivial),?_⟩
 rw [if_pos q1,if_pos q1]
 refine TL.rowS 6 rfl (fun a7 b7 o7 c7 hv7 hc7 ha7=>⟨(kL2 rfl rfl trivial),?_⟩)
 cases hv7
 refine TL.callD [6,2] [6,2] (zob ha7 hwa (by rw [zbc]; split<;>decide) zcV zcV) ⟨rfl,rfl,trivial⟩ ⟨rfl,rfl,trivial⟩ ztl rfl rfl rfl rfl rfl (kL2 rfl rfl trivial) ?_
 rw [zsn]
 refine TL.cases rfl (fun q2=>?_) (fun q2=>?_)
 refine xat rfl (TL.done (TQ.then (TC.condT rfl (TC.region (xmp rfl (xN0 rfl (xf 6 za1 rfl (TL.st 0 #[_,_,_,_,_,_,_,_,_,_,_,_,_,_] (.int _ _) rfl rfl rfl rfl rfl rfl zae rfl rfl trivial ?_))))))))
 refine TL.done (TQ.inBlock (TQ.inBlock (TQ.then (sA (xmp rfl (TL.callD [0] [0] (zcm (t:={ (t.climbs l σ).1 with at_:=4 })) ⟨rfl,trivial⟩ ⟨rfl,trivial⟩ zdz rfl rfl rfl rfl rfl trivial (xab rfl (dR ?_))))))))
 refine TQ.conseq 2 (B:=rowS (.slice wa t.want.size wc) t.want) rfl (fun _ h=>zbb rfl hwc hwa h) ?_
 refine FQ.ret1 (v:=(.bool _)) (Bs:=[_,_,_,_,_]) [0,1,2,3,4] rfl rfl rfl ⟨rfl,rfl,rfl,rfl,rfl,trivial⟩ ?_
 have h5:=TakeS.stp_2b hat q1 (of_decide_eq_true q2)
 exact ⟨cb2,_,_,by rw [h5],by rw [h5,TakeS.cnt_0 (.inr hat)]; dsimp only; rw [h3.2.1,h3.2.2]⟩
 refine xaf rfl (TL.done (TQ.then (TC.condF rfl (TC.region (xmp rfl ?_)))))
 rw [←h3.2.1]
 refine TL.call [0,1] [0,1] (ziL (t:=(t.climbs l σ).1) hl) ⟨rfl,trivial⟩ ⟨rfl,rfl,trivial⟩ zqh rfl rfl rfl rfl ?_
 rintro x Bs ⟨cb2,rfl,rfl⟩
 refine ⟨rfl,trivial,?_⟩
 refine TL.done (TQ.inBlock (TQ.inBlock (TQ.then (sA (xmp rfl (TL.callD [0] [0] zcm ⟨rfl,trivial⟩ ⟨rfl,trivial⟩ zdz rfl rfl rfl rfl rfl trivial (xab rfl (dR ?_))))))))
 refine TQ.conseq 2 (B:=rowS (.slice wa t.want.size wc) t.want) rfl (fun _ h=>zbb rfl hwc hwa h) ?_
 refine FQ.ret1 (v:=(.bool _)) (Bs:=[_,_,_,_,_]) [0,1,2,3,4] rfl rfl rfl ⟨rfl,rfl,rfl,rfl,rfl,trivial⟩ ?_
 have h5:=TakeS.stp_2c hat q1 (of_decide_eq_false q2)
 exact ⟨_,_,_,by rw [h5],by rw [h5,TakeS.cnt_0 (.inr hat)]; dsimp only; rw [TakeS.leave_held,TakeS.leave_want,h3.2.2]⟩
 refine xnf rfl (xat rfl (TL.done (TQ.then (TC.condT rfl (TC.skip (TQ.inBlock (TQ.inBlock (TQ.then ?_))))))))
 refine sA (xmp rfl (TL.callD [0] [0] zcm ⟨rfl,trivial⟩ ⟨rfl,trivial⟩ zdz rfl rfl rfl rfl rfl trivial (xab rfl (dR (TQ.conseq 2 (B:=rowS (.slice wa t.want.size wc) t.want) rfl (fun _ h=>zbb rfl hwc hwa h) ?_)))))
 refine FQ.ret1 (v:=(.bool _)) (Bs:=[_,_,_,_,_]) [0,1,2,3,4] rfl rfl rfl ⟨rfl,rfl,rfl,rfl,rfl,trivial⟩ ?_
 have h9:=TakeS.stp_2a hat (by simpa using q1)
 exact ⟨cb2,_,_,by rw [h9],by rw [h9,TakeS.cnt_0 (.inr hat)]; dsimp only; rw [h3.2.1,h3.2.2]⟩
set_option maxHeartbeats 1000000 in
theorem zqL {l:Lay} (hl:l.Ok) {tb cb ab mb wb wo wc hc hbk:Nat} {wa ha:Option Addr} {t:TakeS} {σ:Array UInt64} {n:Cnt} (hwa:0<t.want.size→wa=some ⟨wb,wo,none⟩) (hwc:t.want.size≤wc) (hha:0<t.held.size→ha=some ⟨hbk,0,none⟩) (hhc:t.held.size≤hc) (hat:t.at_=3) (h0:0<t.held.size) (hhs:t.held.size≤2):Go.Eng.Fn Tryz.prog 18 [.pointer (some ⟨tb,0,none⟩),.pointer (some ⟨ab,0,none⟩)] [zbE 130 tb (.pointer (some ⟨cb,0,none⟩)) (.slice wa t.want.size wc) (.slice ha t.held.size hc) l (t),zao 157 189 cb l ((t).climb),rowW encI 1 wb wo t.want.size t.want,ownA encI 1 3 (.slice ha t.held.size hc) ((t).held),arenaC ab mb 140 71 (σ) (n)] (fun x Bs=>∃ cb2 wv2 hv2,x=.bool (decide ((t.stp l σ).1.at_=4))∧Bs=[zbE 130 tb (.pointer (some ⟨cb2,0,none⟩)) (wv2) (hv2) l ((t.stp l σ).1),zao 157 189 cb2 l (((t.stp l σ).1).climb),rowS wv2 ((t.stp l σ).1).want,ownA encI 1 3 (hv2) (((t.stp l σ).1).held),arenaC ab mb 140 71 ((t.stp l σ).2) (t.cnt l σ n)]):=by
 refine Fn.enter (Tryz.func18) rfl rfl (fun w0 R=>?_)
 refine sA (xaf rfl (dB (xmp rfl (xN0 rfl (xf 6 za1 rfl (xli 0 zae rfl rfl (dK (sA ?_))))))))
 refine TL.eqlF rfl rfl (by omega) rfl rfl (xaf rfl (TL.done (TQ.then (TC.condF rfl (sA (TL.eqlF rfl rfl (by omega) rfl rfl (xaf rfl (TL.done ?_))))))))
 refine TQ.then (TC.condF rfl (sA (TL.eqlF rfl rfl (by omega) rfl rfl (xaf rfl (TL.done (TQ.then (TC.condF rfl (sA ?_))))))))
 refine TL.eqlT rfl rfl hat rfl rfl (xat rfl (dT rfl (xmp rfl (xN0 rfl (xf 12 za6 rfl (xls 0 zb2 rfl rfl (xz zag rfl (TL.sub (((t.held.size - 1:Nat):Int)) rfl rfl (wrN (by omega)) rfl rfl ?_))))))))
 refine xai rfl (dS (TC.draw [(0,true),(1,true),(2,true),(3,true),(4,true),(5,true),(6,true),(7,true),(8,true),(9,true),(10,true),(11,true),(12,false),(13,false)] [0,3] fc_m (by kernel_rfl) (xmp rfl (xmp rfl (xN0 rfl (xf 0 zc8 rfl (xL3 0 zaa rfl rfl (xmp rfl ?_))))))))
 refine xN0 rfl (xf 12 za6 rfl (xls 0 zb2 rfl rfl (xmi rfl (TL.iaO rfl hha rfl zag (by omega) rfl rfl (TL.ldRS 3 (.int _ _) rfl rfl (zgH hha) (by omega) (rfl) zae rfl rfl (TL.callD [] [] (zaE hl) ⟨rfl,rfl,rfl,trivial⟩ trivial zbm rfl rfl rfl rfl rfl (kL2 rfl rfl trivial) (TL.callD [4] [4] (zfT (by decide)) ⟨rfl,rfl,rfl,trivial⟩ ⟨rfl,trivial⟩ zhL rfl rfl rfl rfl rfl (kL2 rfl rfl trivial) (dA ?_))))))))
 refine xmp rfl (xmp rfl (xN0 rfl (xf 12 za6 rfl (xls 0 zb2 rfl rfl (xmi rfl (TL.slHi rfl rfl zag (by omega) rfl rfl (xN0 rfl (xf 12 za6 rfl ?_))))))))
 refine TL.st 0 #[_,_,_,_,_,_,_,_,_,_,_,_,_,_] _ rfl rfl rfl rfl rfl rfl zb2 rfl rfl trivial (dS (TC.conseq 3 (B:=ownA encI 1 3 (.slice (slA ha 0 1 hc) (t.held.size - 1) hc) (t.held.extract 0 (t.held.size - 1))) rfl (fun _ h=>zpe (by omega) rfl h) (TC.region (xmi rfl (TL.eql rfl rfl rfl rfl (fun q1=>?_) (fun q1=>?_))))))
 refine TL.done (TQ.then (TC.condT rfl (TC.region (xmp rfl (TL.call [0] [0,5] (zgs (t:=t) hl) ⟨rfl,trivial⟩ ⟨rfl,trivial⟩ znH rfl rfl rfl rfl ?_)))))
 rintro x Bs ⟨cb2,rfl,rfl⟩
 refine ⟨rfl,trivial,?_⟩
 refine TL.done (TQ.inBlock (TQ.then (sA (xmp rfl (TL.callD [0] [0] (zcm (t:=t.begin l)) ⟨rfl,trivial⟩ ⟨rfl,trivial⟩ zdz rfl rfl rfl rfl rfl trivial (xab rfl (dR (TQ.conseq 2 (B:=rowS (.slice wa t.want.size wc) t.want) rfl (fun _ h=>zbb rfl hwc hwa h) ?_))))))))
 refine FQ.ret1 (v:=(.bool _)) (Bs:=[_,_,_,_,_]) [0,5,2,3,4] rfl rfl rfl ⟨rfl,rfl,rfl,rfl,rfl,trivial⟩ ?_
 have h9:=TakeS.stp_3a (l:=l) (σ:=σ) hat (by omega)
 exact ⟨cb2,_,_,by rw [h9]; rfl,by rw [h9,TakeS.cnt_3 hat]; rfl⟩
 refine TL.done (TQ.then (TC.condF rfl (TC.skip (TQ.inBlock (TQ.then (sA (xmp rfl (TL.callD [0] [0] (zcm (t:=t)) ⟨rfl,trivial⟩ ⟨rfl,trivial⟩ zdz rfl rfl rfl rfl rfl trivial ?_))))))))
 refine xab rfl (dR (TQ.conseq 2 (B:=rowS (.slice wa t.want.size wc) t.want) rfl (fun _ h=>zbb rfl hwc hwa h) ?_))
 refine FQ.ret1 (v:=(.bool _)) (Bs:=[_,_,_,_,_]) [0,1,2,3,4] rfl rfl rfl ⟨rfl,rfl,rfl,rfl,rfl,trivial⟩ ?_
 have h9:=TakeS.stp_3b (l:=l) (σ:=σ) hat (by omega)
 exact ⟨cb,_,_,by rw [h9],by rw [h9,TakeS.cnt_3 hat]; rfl⟩
set_option maxHeartbeats 1000000 in
theorem zqK {l:Lay} (hl:l.Ok) {tb cb ab mb wb wo wc hc hbk:Nat} {wa ha:Option Addr} {t:TakeS} {σ:Array UInt64} {n:Cnt} (hwa:0<t.want.size→wa=some ⟨wb,wo,none⟩) (hwc:t.want.size≤wc) (hha:0<t.held.size→ha=some ⟨hbk,0,none⟩) (hhc:t.held.size≤hc) (hat:t.at_≠0∧t.at_≠1∧t.at_≠2∧t.at_≠3):Go.Eng.Fn Tryz.prog 18 [.pointer (some ⟨tb,0,none⟩),.pointer (some ⟨ab,0,none⟩)] [zbE 130 tb (.pointer (some ⟨cb,0,none⟩)) (.slice wa t.want.size wc) (.slice ha t.held.size hc) l (t),zao 157 189 cb l ((t).climb),rowW encI 1 wb wo t.want.size t.want,ownA encI 1 3 (.slice ha t.held.size hc) ((t).held),arenaC ab mb 140 71 (σ) (n)] (fun x Bs=>∃ cb2 wv2 hv2,x=.bool (decide ((t.stp l σ).1.at_=4))∧Bs=[zbE 130 tb (.pointer (some ⟨cb2,0,none⟩)) (wv2) (hv2) l ((t.stp l σ).1),zao 157 189 cb2 l (((t.stp l σ).1).climb),rowS wv2 ((t.stp l σ).1).want,ownA encI 1 3 (hv2) (((t.stp l σ).1).held),arenaC ab mb 140 71 ((t.stp l σ).2) (t.cnt l σ n)]):=by
 refine Fn.enter (Tryz.func18) rfl rfl (fun w0 R=>?_)
 refine sA (xaf rfl (dB (xmp rfl (xN0 rfl (xf 6 za1 rfl (xli 0 zae rfl rfl (dK (sA ?_))))))))
 refine TL.eqlF rfl rfl hat.1 rfl rfl (xaf rfl (TL.done (TQ.then (TC.condF rfl (sA (TL.eqlF rfl rfl hat.2.1 rfl rfl (xaf rfl (TL.done ?_))))))))
 refine TQ.then (TC.condF rfl (sA (TL.eqlF rfl rfl hat.2.2.1 rfl rfl (xaf rfl (TL.done (TQ.then (TC.condF rfl (sA ?_))))))))
 refine TL.eqlF rfl rfl hat.2.2.2 rfl rfl (xaf rfl (TL.done (TQ.then (TC.condF rfl (TC.skip (TQ.inBlock (TQ.then (sA ?_))))))))
 refine xmp rfl (TL.callD [0] [0] zcm ⟨rfl,trivial⟩ ⟨rfl,trivial⟩ zdz rfl rfl rfl rfl rfl trivial (xab rfl (dR (TQ.conseq 2 (B:=rowS (.slice wa t.want.size wc) t.want) rfl (fun _ h=>zbb rfl hwc hwa h) ?_))))
 refine FQ.ret1 (v:=(.bool _)) (Bs:=[_,_,_,_,_]) [0,1,2,3,4] rfl rfl rfl ⟨rfl,rfl,rfl,rfl,rfl,trivial⟩ ?_
 have h9:=TakeS.stp_4 (l:=l) (σ:=σ) hat
 exact ⟨cb,_,_,by rw [h9],by rw [h9,TakeS.cnt_4 hat]⟩
theorem zjA {l:Lay} {tb cb wb wo wc hbk hc:Nat} {wa ha:Option Addr} {t:TakeS} (hwa:0<t.want.size→wa=some ⟨wb,wo,none⟩) (hwc:t.want.size≤wc) (hha:0<t.held.size→ha=some ⟨hbk,0,none⟩) (hhc:t.held.size≤hc)  : Go.Eng.Fn Tryz.prog 19 [.pointer (some ⟨tb,0,none⟩)] [zbE 130 tb (.pointer (some ⟨cb,0,none⟩)) (.slice wa t.want.size wc) (.slice ha t.held.size hc) l (t),zao 157 189 cb l ((t).climb),rowW encI 1 wb wo t.want.size t.want,ownA encI 1 3 (.slice ha t.held.size hc) ((t).held)] (fun x Bs=>∃ cb2 wv2 hv2 t2 Cs2,Bs=zbE 130 tb (.pointer (some ⟨cb2,0,none⟩)) (wv2) (hv2) l (t2) :: zao 157 189 cb2 l (t2.climb) :: rowS wv2 t2.want :: ownA encI 1 3 (hv2) (t2.held) :: Cs2∧(x=.bool (decide (t.at_=4))∧(zbR 130 157 189 3 tb l (t2)) :: Cs2=[zbR 130 157 189 3 tb l (t)])):=by
 refine Fn.enter (Tryz.func19) rfl rfl (fun w0 R=>?_)
 refine sA (xaf rfl (dA (xmp rfl (xN0 rfl (xf 6 za1 rfl (xli 0 zae rfl rfl (TL.eqlV rfl rfl rfl rfl (xab rfl ?_))))))))
 refine dR (TQ.conseq 2 (B:=rowS (.slice wa t.want.size wc) t.want) rfl (fun _ h=>zbb rfl hwc hwa h) ?_)
 refine FQ.ret1 (v:=(.bool _)) (Bs:=[_,_,_,_]) [0,1,2,3] rfl rfl rfl ⟨rfl,rfl,rfl,rfl,trivial⟩ ?_
 exact ⟨cb,_,_,t,[],rfl,rfl,rfl⟩
theorem zgr {l:Lay} {tb:Nat} {t:TakeS}:FnD Tryz.prog 19 [.pointer (some ⟨tb,0,none⟩)] [zbR 130 157 189 3 tb l (t)] (.bool (decide (t.at_=4))) [zbR 130 157 189 3 tb l (t)]:=Fn.takeX fun cb wb wo wc hbk hc wa ha hwa hwc hha hhc=>zjA hwa hwc hha hhc
theorem zjv {l:Lay} {tb cb wb wo wc hbk hc:Nat} {wa ha:Option Addr} {t:TakeS} (hwa:0<t.want.size→wa=some ⟨wb,wo,none⟩) (hwc:t.want.size≤wc) (hha:0<t.held.size→ha=some ⟨hbk,0,none⟩) (hhc:t.held.size≤hc)  : Go.Eng.Fn Tryz.prog 44 [.pointer (some ⟨tb,0,none⟩)] [zbE 130 tb (.pointer (some ⟨cb,0,none⟩)) (.slice wa t.want.size wc) (.slice ha t.held.size hc) l (t),zao 157 189 cb l ((t).climb),rowW encI 1 wb wo t.want.size t.want,ownA encI 1 3 (.slice ha t.held.size hc) ((t).held)] (fun x Bs=>∃ cb2 wv2 hv2 t2 Cs2,Bs=zbE 130 tb (.pointer (some ⟨cb2,0,none⟩)) (wv2) (hv2) l (t2) :: zao 157 189 cb2 l (t2.climb) :: rowS wv2 t2.want :: ownA encI 1 3 (hv2) (t2.held) :: Cs2∧(x=.int .i64 t.tries∧(zbR 130 157 189 3 tb l (t2)) :: Cs2=[zbR 130 157 189 3 tb l (t)])):=by
 refine Fn.enter (Tryz.func44) rfl rfl (fun w0 R=>?_)
 refine sA (xai rfl (dA (xmp rfl (xN0 rfl (xf 13 zed rfl (xli 0 zae rfl rfl (xai rfl (dR ?_))))))))
 refine TQ.conseq 2 (B:=rowS (.slice wa t.want.size wc) t.want) rfl (fun _ h=>zbb rfl hwc hwa h) ?_
 refine FQ.ret1 (v:=(.int _ _)) (Bs:=[_,_,_,_]) [0,1,2,3] rfl rfl rfl ⟨rfl,rfl,rfl,rfl,trivial⟩ ?_
 exact ⟨cb,_,_,t,[],rfl,rfl,rfl⟩
theorem zml {l:Lay} {tb:Nat} {t:TakeS}:FnD Tryz.prog 44 [.pointer (some ⟨tb,0,none⟩)] [zbR 130 157 189 3 tb l (t)] (.int .i64 t.tries) [zbR 130 157 189 3 tb l (t)]:=Fn.takeX fun cb wb wo wc hbk hc wa ha hwa hwc hha hhc=>zjv hwa hwc hha hhc
theorem zkB {l:Lay} (hl:l.Ok) {tb ab mb:Nat} {t:TakeS} {σ:Array UInt64} {n:Cnt} (hk:TakeOk l σ t):FnD Tryz.prog 18 [.pointer (some ⟨tb,0,none⟩),.pointer (some ⟨ab,0,none⟩)] [zbR 130 157 189 3 tb l (t),arenaC ab mb 140 71 (σ) (n)] (.bool (decide ((t.stp l σ).1.at_=4))) [zbR 130 157 189 3 tb l ((t.stp l σ).1),arenaC ab mb 140 71 ((t.stp l σ).2) (t.cnt l σ n)]:=by
 refine Fn.takeX fun cb wb wo wc hbk hc wa ha hwa hwc hha hhc=>?_
 have go:∀ (x:Value) (Bs:List Assn),(fun x Bs=>∃ cb2 wv2 hv2,x=.bool (decide ((t.stp l σ).1.at_=4))∧Bs=[zbE 130 tb (.pointer (some ⟨cb2,0,none⟩)) (wv2) (hv2) l ((t.stp l σ).1),zao 157 189 cb2 l (((t.stp l σ).1).climb),rowS wv2 ((t.stp l σ).1).want,ownA encI 1 3 (hv2) (((t.stp l σ).1).held),arenaC ab mb 140 71 ((t.stp l σ).2) (t.cnt l σ n)]) x Bs→∃ cb2 wv2 hv2 t2 Cs2,Bs=zbE 130 tb (.pointer (some ⟨cb2,0,none⟩)) (wv2) (hv2) l (t2) :: zao 157 189 cb2 l (t2.climb) :: rowS wv2 t2.want :: ownA encI 1 3 (hv2) (t2.held) :: Cs2∧(x=.bool (decide ((t.stp l σ).1.at_=4))∧(zbR 130 157 189 3 tb l (t2)) :: Cs2=[zbR 130 157 189 3 tb l ((t.stp l σ).1),arenaC ab mb 140 71 ((t.stp l σ).2) (t.cnt l σ n)]):=by
  rintro x Bs ⟨cb2,wv2,hv2,rfl,rfl⟩
  exact ⟨cb2,wv2,hv2,_,_,rfl,rfl,rfl⟩
 by_cases h0:t.at_=0
 ·exact Fn.mono (zqO hl hwa hwc hha hhc h0 (hk.w (.inl h0))) go
 by_cases h1:t.at_=1
 ·have h:=hk.s h1
  exact Fn.mono (zqN hl hwa hwc hha hhc h1 h.1 hk.z.1 h.2.1 h.2.2) go
 by_cases h2:t.at_=2
 ·exact Fn.mono (zqM hl hwa hwc hha hhc h2 (hk.w (.inr h2)) hk.z.1) go
 by_cases h3:t.at_=3
 ·exact Fn.mono (zqL hl hwa hwc hha hhc h3 (hk.h h3) hk.z.2) go
 ·exact Fn.mono (zqK hl hwa hwc hha hhc ⟨h0,h1,h2,h3⟩) go
theorem zly {l:Lay} {tb cb wb wo wc hbk hc:Nat} {wa ha:Option Addr} {t:TakeS} (hwa:0<t.want.size→wa=some ⟨wb,wo,none⟩) (hwc:t.want.size≤wc) (hha:0<t.held.size→ha=some ⟨hbk,0,none⟩) (hhc:t.held.size≤hc) (hz:t.want.size≤2∧t.held.size≤2)  : Go.Eng.Fn Tryz.prog 43 [.pointer (some ⟨tb,0,none⟩)] [zbE 130 tb (.pointer (some ⟨cb,0,none⟩)) (.slice wa t.want.size wc) (.slice ha t.held.size hc) l (t),zao 157 189 cb l ((t).climb),rowW encI 1 wb wo t.want.size t.want,ownA encI 1 3 (.slice ha t.held.size hc) ((t).held)] (fun x Bs=>∃ cb2 wv2 hv2 t2 Cs2,Bs=zbE 130 tb (.pointer (some ⟨cb2,0,none⟩)) (wv2) (hv2) l (t2) :: zao 157 189 cb2 l (t2.climb) :: rowS wv2 t2.want :: ownA encI 1 3 (hv2) (t2.held) :: Cs2∧(True∧(zbR 130 157 189 3 tb l (t2)) :: Cs2=[zbR 130 157 189 3 tb l (t),rowS x (t.held)])):=by
 refine Fn.enter (Tryz.func43) rfl rfl (fun w0 R=>?_)
 refine sA (TL.asg (.slice none 0 0) rfl rfl rfl (dA (xmp rfl (xN0 rfl (xf 12 za6 rfl (xls 0 zb2 rfl rfl (TL.call [3] [3,4] (zhc hha (by omega) (zgH hha)) ⟨rfl,trivial⟩ ⟨rfl,trivial⟩ znG rfl rfl rfl rfl ?_)))))))
 rintro v Bs rfl
 refine ⟨rfl,trivial,?_⟩
 rw [zjJ rfl]
 refine TL.conseq 4 (B:=rowS _ t.held) rfl (fun _ h=>zek h) trivial (xav rfl (dR (TQ.conseq 2 (B:=rowS (.slice wa t.want.size wc) t.want) rfl (fun _ h=>zbb rfl hwc hwa h) ?_)))
 refine FQ.ret1 (v:=_) (Bs:=[_,_,_,_,_]) [0,1,2,3,4] rfl rfl rfl ⟨rfl,rfl,rfl,rfl,rfl,trivial⟩ ?_
 exact ⟨cb,_,_,t,_,rfl,trivial,rfl⟩
theorem zkD {l:Lay} {tb:Nat} {t:TakeS} (hz:t.want.size≤2∧t.held.size≤2):Go.Eng.Fn Tryz.prog 43 [.pointer (some ⟨tb,0,none⟩)] [zbR 130 157 189 3 tb l (t)] (fun x Bs=>True∧Bs=[zbR 130 157 189 3 tb l (t),rowS x (t.held)]):=Fn.takeX fun cb wb wo wc hbk hc wa ha hwa hwc hha hhc=>zly hwa hwc hha hhc hz
theorem zjx {l:Lay} {tb cb wb wo wc hbk hc:Nat} {wa ha:Option Addr} {t:TakeS} (hwa:0<t.want.size→wa=some ⟨wb,wo,none⟩) (hwc:t.want.size≤wc) (hha:0<t.held.size→ha=some ⟨hbk,0,none⟩) (hhc:t.held.size≤hc) (hz:t.want.size≤2∧t.held.size≤2)  : Go.Eng.Fn Tryz.prog 21 [.pointer (some ⟨tb,0,none⟩)] [zbE 130 tb (.pointer (some ⟨cb,0,none⟩)) (.slice wa t.want.size wc) (.slice ha t.held.size hc) l (t),zao 157 189 cb l ((t).climb),rowW encI 1 wb wo t.want.size t.want,ownA encI 1 3 (.slice ha t.held.size hc) ((t).held)] (fun x Bs=>∃ cb2 wv2 hv2 t2 Cs2,Bs=zbE 130 tb (.pointer (some ⟨cb2,0,none⟩)) (wv2) (hv2) l (t2) :: zao 157 189 cb2 l (t2.climb) :: rowS wv2 t2.want :: ownA encI 1 3 (hv2) (t2.held) :: Cs2∧(True∧(zbR 130 157 189 3 tb l (t2)) :: Cs2=[zbR 130 157 189 3 tb l (t),rowS x (t.roots)])):=by
 refine Fn.enter (Tryz.func21) rfl rfl (fun w0 R=>?_)
 refine sA (TL.asg (.slice none 0 0) rfl rfl rfl (dB (xmp rfl (TL.callD [0] [0] zcm ⟨rfl,trivial⟩ ⟨rfl,trivial⟩ zdz rfl rfl rfl rfl rfl trivial (TL.casesP rfl (fun q1=>?_) (fun q1=>?_))))))
 refine xnt rfl (dF rfl (xmp rfl (xN0 rfl (xf 11 zcy rfl (xls 0 zb2 rfl rfl (TL.call [2] [2,4] (zhc hwa (by omega) zcV) ⟨rfl,trivial⟩ ⟨rfl,trivial⟩ znG rfl rfl rfl rfl ?_))))))
 rintro v Bs rfl
 refine ⟨rfl,trivial,?_⟩
 rw [zjJ rfl]
 refine TL.conseq 4 (B:=rowS _ t.want) rfl (fun _ h=>zek h) trivial (xav rfl (dR (TQ.conseq 2 (B:=rowS (.slice wa t.want.size wc) t.want) rfl (fun _ h=>zbb rfl hwc hwa h) ?_)))
 refine FQ.ret1 (v:=_) (Bs:=[_,_,_,_,_]) [0,1,2,3,4] rfl rfl rfl ⟨rfl,rfl,rfl,rfl,rfl,trivial⟩ ?_
 have h4:t.at_=4:=by simpa using q1
 exact ⟨cb,_,_,t,_,rfl,trivial,by unfold TakeS.roots; rw [if_pos h4]⟩
 refine xnf rfl (TL.done (TQ.then (TC.condT rfl (TC.seq (TC.nilA 5 (A:=rowS (.slice none 0 0) #[]) zkK (TC.region (TL.asg (.slice none 0 0) rfl rfl rfl (dRR ?_))))))))
 refine TQ.conseq 2 (B:=rowS (.slice wa t.want.size wc) t.want) rfl (fun _ h=>zbb rfl hwc hwa h) ?_
 refine FQ.ret1 (v:=(.slice none 0 0)) (Bs:=[_,_,_,_,_]) [0,1,2,3,5] rfl rfl rfl ⟨rfl,rfl,rfl,rfl,rfl,trivial⟩ ?_
 have h4:¬t.at_=4:=by simpa using q1
 exact ⟨cb,_,_,t,_,rfl,trivial,by unfold TakeS.roots; rw [if_neg h4]⟩
theorem zeY {l:Lay} {tb:Nat} {t:TakeS} (hz:t.want.size≤2∧t.held.size≤2):Go.Eng.Fn Tryz.prog 21 [.pointer (some ⟨tb,0,none⟩)] [zbR 130 157 189 3 tb l (t)] (fun x Bs=>True∧Bs=[zbR 130 157 189 3 tb l (t),rowS x (t.roots)]):=Fn.takeX fun cb wb wo wc hbk hc wa ha hwa hwc hha hhc=>zjx hwa hwc hha hhc hz
theorem zjz {l:Lay} (hl:l.Ok) {u v th:Int}:Go.Eng.Fn Tryz.prog 25 [layV l,.int .i64 u,.int .i64 v,.int .i64 th] [] (fun x Bs=>∃ tb,x=.pointer (some ⟨tb,0,none⟩)∧Bs=[zbR 130 157 189 3 tb l ((take0 l u v th))]):=by
 refine Fn.enter (Tryz.func25) rfl rfl (fun w0 R=>?_)
 refine sA (xB 0 rfl (fun bk0=>(TL.asg (.pointer none) rfl rfl rfl (dA (xL3 0 zaa rfl rfl (xmi rfl (xmi rfl (TL.bldA [.int .i64 0,.int .i64 0] [(.int _ _),(.int _ _)] [_,_] zfJ zaJ ⟨rfl,rfl,trivial⟩ ⟨rfl,rfl⟩ rfl rfl (xmi rfl ?_)))))))))
 refine TL.bld [.int .i64 0,.int .i64 0,.int .i64 0,.int .i64 0,.int .i64 0,.int .i64 0,.int .i64 0,.int .i64 0,.pointer none,.int .i64 0,.int .i64 0,.slice none 0 0,.slice none 0 0,.int .i64 0] [(.agg _),(.agg _),(.int _ _)] [_,_,_,_,_,_,_,_,_,_,_,_,_,_] zrE zrL ⟨rfl,rfl,rfl,trivial⟩ ⟨rfl,rfl⟩ rfl rfl (xB 1 rfl (fun bk1=>(xap rfl (dA (xmp rfl (TL.call [1] [1,2] (zgs (t:=⟨u,v,th,0,0,zaR l u,0,0,#[],#[],0⟩) hl) ⟨rfl,trivial⟩ ⟨rfl,trivial⟩ znH rfl rfl rfl rfl ?_))))))
 rintro x Bs ⟨cb2,rfl,rfl⟩
 refine ⟨rfl,trivial,?_⟩
 refine dS (TC.nilA 3 (A:=rowS (.slice none 0 0) #[]) zkK (TC.nilA 4 (A:=ownA encI 1 3 (.slice none 0 0) (#[])) (.inl ⟨rfl,rfl⟩) (TC.region (xmp rfl (xap rfl (dR (TQ.close 1 2 (star _ _) (by decide) rfl rfl (fun _ _ _ s1 s2 hd h1 h2=>zmu s1 s2 hd h1 h2) (TQ.close 3 4 (star _ _) (by decide) rfl rfl (fun _ _ _ s1 s2 hd h1 h2=>zmu s1 s2 hd h1 h2) ?_))))))))
 refine TQ.close 1 3 (zbR 130 157 189 3 bk1 l (take0 l u v th)) (by decide) rfl rfl (fun _ _ _ s1 s2 hd h1 h2=>zoW s1 s2 hd h1 h2) ?_
 refine FQ.ret1 (v:=(.pointer (some ⟨_,_,none⟩))) (Bs:=[_]) [1] rfl rfl rfl ⟨rfl,trivial⟩ ?_
 exact ⟨_,rfl,rfl⟩
theorem zgj {l:Lay} {gb n c:Nat} {a:Option Addr}:FnD Tryz.prog 22 [.pointer (some ⟨gb,0,none⟩)] [pt gb (.cells #[.int .i64 l.V,.int .i64 l.S,.int .i64 l.T,.slice a n c] 138)] (.bool (decide (n=0))) [pt gb (.cells #[.int .i64 l.V,.int .i64 l.S,.int .i64 l.T,.slice a n c] 138)]:=by
 refine Fn.enter (Tryz.func22) rfl rfl (fun w0 R=>?_)
 refine sA (xaf rfl (dA (xmp rfl (xN0 rfl (xf 3 zc7 rfl (xls 0 zb2 rfl rfl (xz zag rfl (TL.eqlV rfl rfl rfl rfl ?_))))))))
 refine xab rfl (dR ?_)
 refine FQ.ret1 (v:=(.bool _)) (Bs:=[_]) [0] rfl rfl rfl ⟨rfl,trivial⟩ ?_
 exact ⟨congrArg Value.bool (decide_eq_decide.2 (by omega)),rfl⟩
theorem zpw {l:Lay} {gb b off c:Nat} {a:Option Addr} {d:Array Int} (hc:d.size≤c) (ha:0<d.size→a=some ⟨b,off,none⟩)  : Go.Eng.Fn Tryz.prog 22 [.pointer (some ⟨gb,0,none⟩)] [pt gb (.cells #[.int .i64 l.V,.int .i64 l.S,.int .i64 l.T,.slice a d.size c] 138),rowW encI 1 b off d.size d] (fun x Bs=>∃ v2 d2 Cs2,Bs=pt gb (.cells #[.int .i64 l.V,.int .i64 l.S,.int .i64 l.T,v2] 138) :: rowS v2 d2 :: Cs2∧(x=.bool (decide (d.size=0))∧(zda 138 gb l (d2)) :: Cs2=[zda 138 gb l (d)])):=by
 refine Fn.enter (Tryz.func22) rfl rfl (fun w0 R=>?_)
 refine sA (xaf rfl (dA (xmp rfl (xN0 rfl (xf 3 zc7 rfl (xls 0 zb2 rfl rfl (xz zag rfl (TL.eqlV rfl rfl rfl rfl ?_))))))))
 refine xab rfl (dR (TQ.conseq 1 (B:=rowS (.slice a d.size c) d) rfl (fun _ h=>zbb rfl hc ha h) ?_))
 refine FQ.ret1 (v:=(.bool _)) (Bs:=[_,_]) [0,1] rfl rfl rfl ⟨rfl,rfl,trivial⟩ ?_
 exact ⟨_,_,_,rfl,congrArg Value.bool (decide_eq_decide.2 (by omega)),rfl⟩
theorem zi8 {l:Lay} {gb:Nat} {d:Array Int}:FnD Tryz.prog 22 [.pointer (some ⟨gb,0,none⟩)] [zda 138 gb l (d)] (.bool (decide (d.size=0))) [zda 138 gb l (d)]:=Fn.giveX fun a b off c hc ha=>zpw hc ha
theorem zrw {l:Lay} (hl:l.Ok) {gb b off c:Nat} {a:Option Addr} {d:Array Int} (hc:d.size≤c) (ha:0<d.size→a=some ⟨b,off,none⟩) {ab mb:Nat} {σ:Array UInt64} {n:Cnt} (hs:d.size≤2) (h0:d.size=0):Go.Eng.Fn Tryz.prog 23 [.pointer (some ⟨gb,0,none⟩),.pointer (some ⟨ab,0,none⟩)] [pt gb (.cells #[.int .i64 l.V,.int .i64 l.S,.int .i64 l.T,.slice a d.size c] 138),rowW encI 1 b off d.size d,arenaC ab mb 140 71 (σ) (n)] (fun x Bs=>∃ v2 d2 Cs2,Bs=pt gb (.cells #[.int .i64 l.V,.int .i64 l.S,.int .i64 l.T,v2] 138) :: rowS v2 d2 :: Cs2∧(x=.bool (decide ((d.extract 1 d.size).size=0))∧(zda 138 gb l (d2)) :: Cs2=[zda 138 gb l (d.extract 1 d.size),arenaC ab mb 140 71 (zfH l σ d) (zj4 l σ d n)])):=by
 refine Fn.enter (Tryz.func23) rfl rfl (fun w0 R=>?_)
 refine sA (xaf rfl (dB (xmp rfl (TL.callD [0] [0] zgj ⟨rfl,trivial⟩ ⟨rfl,trivial⟩ zhN rfl rfl rfl rfl rfl trivial ?_))))
 rw [decide_eq_true h0]
 refine xnt rfl (dF rfl (xmp rfl (TL.callD [0] [0] zgj ⟨rfl,trivial⟩ ⟨rfl,trivial⟩ zhN rfl rfl rfl rfl rfl trivial (xab rfl (dR (TQ.conseq 1 (B:=rowS (.slice a d.size c) d) rfl (fun _ h=>zbb rfl hc ha h) ?_))))))
 refine FQ.ret1 (v:=(.bool _)) (Bs:=[_,_,_]) [0,1,2] rfl rfl rfl ⟨rfl,rfl,rfl,trivial⟩ ?_
 have e1:d.extract 1 d.size=d:=by rw [Array.eq_empty_of_size_eq_zero h0]; rfl
 rw [e1]
 exact ⟨_,_,_,rfl,rfl,by unfold zfH zj4; rw [if_pos h0,if_pos h0]⟩
theorem zrv {l:Lay} (hl:l.Ok) {gb b off c:Nat} {a:Option Addr} {d:Array Int} (hc:d.size≤c) (ha:0<d.size→a=some ⟨b,off,none⟩) {ab mb:Nat} {σ:Array UInt64} {n:Cnt} (hs:d.size≤2) (h0:0<d.size):Go.Eng.Fn Tryz.prog 23 [.pointer (some ⟨gb,0,none⟩),.pointer (some ⟨ab,0,none⟩)] [pt gb (.cells #[.int .i64 l.V,.int .i64 l.S,.int .i64 l.T,.slice a d.size c] 138),rowW encI 1 b off d.size d,arenaC ab mb 140 71 (σ) (n)] (fun x Bs=>∃ v2 d2 Cs2,Bs=pt gb (.cells #[.int .i64 l.V,.int .i64 l.S,.int .i64 l.T,v2] 138) :: rowS v2 d2 :: Cs2∧(x=.bool (decide ((d.extract 1 d.size).size=0))∧(zda 138 gb l (d2)) :: Cs2=[zda 138 gb l (d.extract 1 d.size),arenaC ab mb 140 71 (zfH l σ d) (zj4 l σ d n)])):=by
 refine Fn.enter (Tryz.func23) rfl rfl (fun w0 R=>?_)
 refine sA (xaf rfl (dB (xmp rfl (TL.callD [0] [0] zgj ⟨rfl,trivial⟩ ⟨rfl,trivial⟩ zhN rfl rfl rfl rfl rfl trivial ?_))))
 rw [decide_eq_false (show ¬d.size=0 by omega)]
 refine xnf rfl (TL.done (TQ.then (TC.condT rfl (TC.seq (TC.draw [(0,true),(1,true),(2,true),(3,true),(4,true),(5,true),(6,true),(7,true),(8,true),(9,true),(10,true),(11,false),(12,false)] [0,1] fc_m (by kernel_rfl) (xmp rfl (xmp rfl (xN0 rfl ?_))))))))
 refine xf 0 zkh rfl (xL3 0 zaa rfl rfl (xmp rfl (xN0 rfl (xf 3 zc7 rfl (xls 0 zb2 rfl rfl (TL.iaO (i:=0) rfl ha rfl zag (by omega) rfl rfl (TL.ldRS 1 (.int _ _) rfl rfl zcV (by omega) (rfl) zae rfl rfl (TL.callD [] [] (zaE hl) ⟨rfl,rfl,rfl,trivial⟩ trivial zbm rfl rfl rfl rfl rfl (kL2 rfl rfl trivial) ?_))))))))
 refine TL.callD [2] [2] (zfT (by decide)) ⟨rfl,rfl,rfl,trivial⟩ ⟨rfl,trivial⟩ zhL rfl rfl rfl rfl rfl (kL2 rfl rfl trivial) (dG (xmp rfl (xmp rfl (xN0 rfl (xf 3 zc7 rfl (xls 0 zb2 rfl rfl (TL.slLo (i:=1) rfl rfl zag (by omega) rfl rfl (xN0 rfl ?_))))))))
 refine xf 3 zc7 rfl (TL.st 0 #[_,_,_,_] (.slice _ _ _) rfl rfl rfl rfl rfl rfl zb2 rfl rfl trivial (dA (xmp rfl (TL.callD [0] [0] zgj ⟨rfl,trivial⟩ ⟨rfl,trivial⟩ zhN rfl rfl rfl rfl rfl trivial (xab rfl (dR (TQ.conseq 1 (B:=rowS (.slice (slA a 1 1 c) (d.size - 1) (c - 1)) (d.extract 1 d.size)) rfl (fun _ h=>zbb (by simp) (by omega) (zfW ha hc) (zmF h (by omega))) ?_)))))))
 refine FQ.ret1 (v:=(.bool _)) (Bs:=[_,_,_]) [0,1,2] rfl rfl rfl ⟨rfl,rfl,rfl,trivial⟩ ?_
 exact ⟨_,_,_,rfl,congrArg Value.bool (decide_eq_decide.2 (by simp)),by unfold zfH zj4; rw [if_neg (by omega),if_neg (by omega)]⟩
theorem zk6 {l:Lay} (hl:l.Ok) {gb ab mb:Nat} {d:Array Int} {σ:Array UInt64} {n:Cnt} (hs:d.size≤2):FnD Tryz.prog 23 [.pointer (some ⟨gb,0,none⟩),.pointer (some ⟨ab,0,none⟩)] [zda 138 gb l (d),arenaC ab mb 140 71 (σ) (n)] (.bool (decide ((d.extract 1 d.size).size=0))) [zda 138 gb l (d.extract 1 d.size),arenaC ab mb 140 71 (zfH l σ d) (zj4 l σ d n)]:=Fn.giveX fun a b off c hc ha=>by
 rcases Nat.eq_zero_or_pos d.size with h | h
 ·exact zrw hl hc ha hs h
 ·exact zrv hl hc ha hs h
theorem znl {l:Lay} {b off c:Nat} {a:Option Addr} {d:Array Int} (ha:0<d.size→a=some ⟨b,off,none⟩) (hs:d.size≤2)  : Go.Eng.Fn Tryz.prog 20 [layV l,.slice a d.size c] [rowW encI 1 b off d.size d] (fun x Bs=>∃ gb,x=.pointer (some ⟨gb,0,none⟩)∧Bs=[rowW encI 1 b off d.size d,zda 138 gb l (d)]):=by
 refine Fn.enter (Tryz.func20) rfl rfl (fun w0 R=>?_)
 refine sA (xB 1 rfl (fun bk1=>(TL.asg (.pointer none) rfl rfl rfl (dS (TC.draw [(0,true),(1,true),(2,false),(3,true),(4,false),(5,true)] [1] fc_m (by kernel_rfl) (xL3 1 zaa rfl rfl (xms rfl (TL.call [0] [0,2] (zhc ha (by omega) zcV) ⟨rfl,trivial⟩ ⟨rfl,trivial⟩ znG rfl rfl rfl rfl ?_))))))))
 rintro v Bs rfl
 refine ⟨rfl,(kL1 rfl trivial),?_⟩
 rw [zjJ rfl]
 refine TL.ownW 2 rfl (fun a9 g9 c9 hv9 hc9 ha9=>?_)
 cases hv9
 refine TL.bld [.int .i64 0,.int .i64 0,.int .i64 0,.slice none 0 0] [(.agg _),(.slice _ _ _)] [_,_,_,_] zrD zrK ⟨rfl,rfl,trivial⟩ ⟨rfl,rfl⟩ rfl rfl (TL.boxA 3 rfl rfl rfl (fun _=>(kL1 rfl trivial)) (fun bk3=>(xap rfl (dR (TQ.conseq 2 (B:=rowS _ d) rfl (fun _ h=>zek h) (TQ.close 3 2 (zda 138 bk3 l d) (by decide) rfl rfl (fun _ _ _ s1 s2 hd h1 h2=>zpv s1 s2 hd h1 h2) ?_))))))
 refine FQ.ret1 (v:=(.pointer (some ⟨_,_,none⟩))) (Bs:=[rowW encI 1 b off d.size d,_]) [0,3] rfl rfl rfl ⟨rfl,rfl,trivial⟩ ?_
 exact ⟨_,rfl,rfl⟩
set_option maxHeartbeats 2000000 in
theorem zhw {V S T:Int} {da ea na:Option Addr} {dn dc en ec nn nc:Nat} {Ad:Assn} {bd offd be offe bn offn:Nat} {fd:Nat→Int} {fe fn:Nat→Op2} (hda:0<dn→da=some ⟨bd,offd,none⟩) (hAd:zaV Ad encU 1 bd offd dn fd) (hfd:∀ i,i<dn→0≤fd i∧fd i<18446744073709551616) (hea:0<en→ea=some ⟨be,offe,none⟩) (hAe:zaV Ad zfq 2 be offe en fe) (hec:en≤ec) (hna:0<nn→na=some ⟨bn,offn,none⟩) (hAn:zaV Ad zfq 2 bn offn nn fn) (hnc:nn≤nc)  : FnD Tryz.prog 14 [.agg #[.int .i64 V,.int .i64 S,.int .i64 T,.slice da dn dc,.slice ea en ec,.slice na nn nc]] [Ad] (.bool (decide (okL V S T∧V≤8∧S≤12∧dn≤60∧en≤30∧1≤nn∧(nn:Int)≤T∧∀ i,i<nn→EndOk V (fn i)))) [Ad]:=by
 refine Fn.enter (Tryz.func14) rfl rfl (fun w0 R=>?_)
 refine sA (xB 1 rfl (fun bk1=>(xaf rfl (dB (xf 0 zbk rfl (xf 0 zaz rfl (xli 1 zae rfl rfl (xf 0 zbk rfl (xf 1 zbl rfl ?_)))))))))
 refine xli 1 zae rfl rfl (xf 0 zbk rfl (xf 2 zdy rfl (xli 1 zae rfl rfl (TL.bld [.int .i64 0,.int .i64 0,.int .i64 0] [(.int _ _),(.int _ _),(.int _ _)] [_,_,_] zrF zrM ⟨rfl,rfl,rfl,trivial⟩ ⟨rfl,rfl⟩ rfl rfl (TL.callD [] [] zjL ⟨rfl,trivial⟩ trivial ztp rfl rfl rfl rfl rfl trivial (TL.casesP rfl (fun q1=>?_) (fun q1=>?_)))))))
 refine xnt rfl (xmf rfl (xf 0 zbk rfl (xf 0 zaz rfl (xli 1 zae rfl rfl (TL.gtr rfl rfl rfl rfl (fun q2=>?_) (fun q2=>?_))))))
 refine xpH rfl (xmt rfl (xo rfl (xo rfl (xo rfl (xo rfl (xpT rfl (xmt rfl (xo rfl ?_))))))))
 refine xo rfl (xo rfl (xo rfl (xpT rfl (xmt rfl (xo rfl (xo rfl (xo rfl (xo rfl ?_))))))))
 refine xpT rfl (xmt rfl (xo rfl (xo rfl (xo rfl (xo rfl (xpT rfl (xmt rfl (xo rfl ?_))))))))
 refine xo rfl (xo rfl (xo rfl (xo rfl (xo rfl (xo rfl (xpT rfl (dT rfl (xaf rfl ?_))))))))
 refine dRR ?_
 refine FQ.ret1 (v:=(.bool false)) (Bs:=[_]) [0] rfl rfl rfl ⟨rfl,trivial⟩ ?_
 first | exact ⟨congrArg Value.bool (by rw [eq_comm,decide_eq_false_iff_not]; rintro ⟨c1,c2,c3,c4,c5,c6,c7,c8⟩; first | omega | (simp_all; done) | (have c9:=c8 i (by omega); have c91:=c9.u; have c92:=c9.v; omega)),rfl⟩ | exact ⟨congrArg Value.bool (by rw [eq_comm,decide_eq_true_iff]; exact ⟨by simp_all,by omega,by omega,by omega,by omega,by omega,by omega,fun j h9=>hj j (by omega)⟩),rfl⟩
 refine xpF rfl (xmf rfl (xf 0 zbk rfl (xf 1 zbl rfl (xli 1 zae rfl rfl (TL.gtr rfl rfl rfl rfl (fun q3=>?_) (fun q3=>?_))))))
 refine xpH rfl (xmt rfl (xo rfl (xo rfl (xo rfl (xo rfl (xpT rfl (xmt rfl (xo rfl ?_))))))))
 refine xo rfl (xo rfl (xo rfl (xpT rfl (xmt rfl (xo rfl (xo rfl (xo rfl (xo rfl ?_))))))))
 refine xpT rfl (xmt rfl (xo rfl (xo rfl (xo rfl (xo rfl (xo rfl (xo rfl (xo rfl ?_))))))))
 refine xpT rfl (dT rfl (xaf rfl (dRR ?_)))
 refine FQ.ret1 (v:=(.bool false)) (Bs:=[_]) [0] rfl rfl rfl ⟨rfl,trivial⟩ ?_
 first | exact ⟨congrArg Value.bool (by rw [eq_comm,decide_eq_false_iff_not]; rintro ⟨c1,c2,c3,c4,c5,c6,c7,c8⟩; first | omega | (simp_all; done) | (have c9:=c8 i (by omega); have c91:=c9.u; have c92:=c9.v; omega)),rfl⟩ | exact ⟨congrArg Value.bool (by rw [eq_comm,decide_eq_true_iff]; exact ⟨by simp_all,by omega,by omega,by omega,by omega,by omega,by omega,fun j h9=>hj j (by omega)⟩),rfl⟩
 refine xpF rfl (xmf rfl (xf 3 zhK rfl (xls 1 zcx rfl rfl (xz zas rfl (TL.gtr rfl rfl rfl rfl (fun q4=>?_) (fun q4=>?_))))))
 refine xpH rfl (xmt rfl (xo rfl (xo rfl (xo rfl (xo rfl (xpT rfl (xmt rfl (xo rfl ?_))))))))
 refine xo rfl (xo rfl (xo rfl (xpT rfl (xmt rfl (xo rfl (xo rfl (xo rfl (xo rfl ?_))))))))
 refine xo rfl (xo rfl (xo rfl (xpT rfl (dT rfl (xaf rfl (dRR ?_))))))
 refine FQ.ret1 (v:=(.bool false)) (Bs:=[_]) [0] rfl rfl rfl ⟨rfl,trivial⟩ ?_
 first | exact ⟨congrArg Value.bool (by rw [eq_comm,decide_eq_false_iff_not]; rintro ⟨c1,c2,c3,c4,c5,c6,c7,c8⟩; first | omega | (simp_all; done) | (have c9:=c8 i (by omega); have c91:=c9.u; have c92:=c9.v; omega)),rfl⟩ | exact ⟨congrArg Value.bool (by rw [eq_comm,decide_eq_true_iff]; exact ⟨by simp_all,by omega,by omega,by omega,by omega,by omega,by omega,fun j h9=>hj j (by omega)⟩),rfl⟩
 refine xpF rfl (xmf rfl (xf 4 zhJ rfl (xls 1 zdZ rfl rfl (xz zaL rfl (TL.gtr rfl rfl rfl rfl (fun q5=>?_) (fun q5=>?_))))))
 refine xpH rfl (xmt rfl (xo rfl (xo rfl (xo rfl (xo rfl (xpT rfl (xmt rfl (xo rfl ?_))))))))
 refine xo rfl (xo rfl (xo rfl (xo rfl (xo rfl (xo rfl (xpT rfl (dT rfl (xaf rfl ?_))))))))
 refine dRR ?_
 refine FQ.ret1 (v:=(.bool false)) (Bs:=[_]) [0] rfl rfl rfl ⟨rfl,trivial⟩ ?_
 first | exact ⟨congrArg Value.bool (by rw [eq_comm,decide_eq_false_iff_not]; rintro ⟨c1,c2,c3,c4,c5,c6,c7,c8⟩; first | omega | (simp_all; done) | (have c9:=c8 i (by omega); have c91:=c9.u; have c92:=c9.v; omega)),rfl⟩ | exact ⟨congrArg Value.bool (by rw [eq_comm,decide_eq_true_iff]; exact ⟨by simp_all,by omega,by omega,by omega,by omega,by omega,by omega,fun j h9=>hj j (by omega)⟩),rfl⟩
 refine xpF rfl (xmf rfl (xf 5 zbA rfl (xls 1 zdZ rfl rfl (xz zaL rfl (TL.lss rfl rfl rfl rfl (fun q6=>?_) (fun q6=>?_))))))
 refine xpH rfl (xmt rfl (xo rfl (xo rfl (xo rfl (xo rfl (xo rfl (xo rfl (xo rfl ?_))))))))
 refine xpT rfl (dT rfl (xaf rfl (dRR ?_)))
 refine FQ.ret1 (v:=(.bool false)) (Bs:=[_]) [0] rfl rfl rfl ⟨rfl,trivial⟩ ?_
 first | exact ⟨congrArg Value.bool (by rw [eq_comm,decide_eq_false_iff_not]; rintro ⟨c1,c2,c3,c4,c5,c6,c7,c8⟩; first | omega | (simp_all; done) | (have c9:=c8 i (by omega); have c91:=c9.u; have c92:=c9.v; omega)),rfl⟩ | exact ⟨congrArg Value.bool (by rw [eq_comm,decide_eq_true_iff]; exact ⟨by simp_all,by omega,by omega,by omega,by omega,by omega,by omega,fun j h9=>hj j (by omega)⟩),rfl⟩
 refine xpF rfl (xmf rfl (xf 5 zbA rfl (xls 1 zdZ rfl rfl (xz zaL rfl (xf 0 zbk rfl (xf 2 zdy rfl (xli 1 zae rfl rfl (TL.gtr rfl rfl rfl rfl (fun q7=>?_) (fun q7=>?_)))))))))
 refine xpH rfl (dT rfl (xaf rfl (dRR ?_)))
 refine FQ.ret1 (v:=(.bool false)) (Bs:=[_]) [0] rfl rfl rfl ⟨rfl,trivial⟩ ?_
 first | exact ⟨congrArg Value.bool (by rw [eq_comm,decide_eq_false_iff_not]; rintro ⟨c1,c2,c3,c4,c5,c6,c7,c8⟩; first | omega | (simp_all; done) | (have c9:=c8 i (by omega); have c91:=c9.u; have c92:=c9.v; omega)),rfl⟩ | exact ⟨congrArg Value.bool (by rw [eq_comm,decide_eq_true_iff]; exact ⟨by simp_all,by omega,by omega,by omega,by omega,by omega,by omega,fun j h9=>hj j (by omega)⟩),rfl⟩
 refine xpF rfl (TL.done (TQ.then (TC.condF rfl (TC.skip (TQ.then (sB (xf 5 zbA rfl (xls 1 zdZ rfl rfl ?_))))))))
 refine xz zaL rfl (xmi rfl (dK (TC.loopK (X:=Nat) [1,57,58] [0,1] (fun i=>[(59,.int .i64 ((i:Nat):Int))]) (fun i=>[]) (fun i=>i≤nn∧∀ j,j<i→EndOk V (fn j)) (fun i=>nn - i) (0) ⟨Nat.zero_le _,fun j hj=>absurd hj (Nat.not_lt_zero _)⟩ ⟨rfl,trivial⟩ trivial (fun i hI=>?_))))
 obtain ⟨hi,hj⟩:=hI
 have hT8:T≤8:=by have h0:okL V S T:=(by first | assumption | simp_all); unfold okL at h0; omega
 refine TC.sub (env':=[(59,_),(1,_),(57,_),(58,_)]) (L':=[(0,_),(1,_)]) ⟨rfl,rfl,rfl,rfl,trivial⟩ ⟨rfl,rfl,trivial⟩ (sA (TL.lss rfl rfl rfl rfl (fun q8=>?_) (fun q8=>?_)))
 refine dS (TC.condT rfl (TC.skip (TQ.then (TC.seq (TC.block (sA (TL.iaO rfl hna rfl zaL (by omega) rfl rfl (TL.ldRx 0 [_,_] rfl rfl hAn (by omega) rfl zep rfl rfl ?_))))))))
 refine TL.alloc 2 (cs:=#[.int .i64 0,.int .i64 0]) zny rfl rfl rfl (fun _=>trivial) (fun bk2=>(TL.stW 2 2 [_,_] rfl rfl rfl rfl rfl rfl zep rfl rfl trivial (dA (xf 0 zbj rfl (xli 2 zae rfl rfl (TL.lss rfl rfl rfl rfl (fun q9=>?_) (fun q9=>?_)))))))
 refine xmt rfl (xo rfl (xo rfl (xo rfl (xo rfl (xo rfl (xo rfl (xpT rfl (xmt rfl ?_))))))))
 refine xo rfl (xo rfl (xo rfl (xpT rfl (xmt rfl (xo rfl (xo rfl (xo rfl (xo rfl ?_))))))))
 refine xo rfl (xo rfl (xpT rfl (dT rfl (xaf rfl (dR (TQ.blockRet (TQ.thenRet (TQ.thenRet ?_))))))))
 refine TQ.blockRet (TQ.thenRet ?_)
 refine FQ.ret1 (v:=(.bool false)) (Bs:=[_]) [0] rfl rfl rfl ⟨rfl,trivial⟩ ?_
 first | exact ⟨congrArg Value.bool (by rw [eq_comm,decide_eq_false_iff_not]; rintro ⟨c1,c2,c3,c4,c5,c6,c7,c8⟩; first | omega | (simp_all; done) | (have c9:=c8 i (by omega); have c91:=c9.u; have c92:=c9.v; omega)),rfl⟩ | exact ⟨congrArg Value.bool (by rw [eq_comm,decide_eq_true_iff]; exact ⟨by simp_all,by omega,by omega,by omega,by omega,by omega,by omega,fun j h9=>hj j (by omega)⟩),rfl⟩
 refine xmf rfl (xf 0 zbj rfl (xli 2 zae rfl rfl (xf 0 zbk rfl (xf 0 zaz rfl (xli 1 zae rfl rfl (TL.geq rfl rfl rfl rfl (fun q10=>?_) (fun q10=>?_)))))))
 refine xpH rfl (xmt rfl (xo rfl (xo rfl (xo rfl (xpT rfl (xmt rfl (xo rfl (xo rfl ?_))))))))
 refine xo rfl (xo rfl (xo rfl (xo rfl (xpT rfl (dT rfl (xaf rfl (dR (TQ.blockRet ?_))))))))
 refine TQ.thenRet (TQ.thenRet (TQ.blockRet (TQ.thenRet ?_)))
 refine FQ.ret1 (v:=(.bool false)) (Bs:=[_]) [0] rfl rfl rfl ⟨rfl,trivial⟩ ?_
 first | exact ⟨congrArg Value.bool (by rw [eq_comm,decide_eq_false_iff_not]; rintro ⟨c1,c2,c3,c4,c5,c6,c7,c8⟩; first | omega | (simp_all; done) | (have c9:=c8 i (by omega); have c91:=c9.u; have c92:=c9.v; omega)),rfl⟩ | exact ⟨congrArg Value.bool (by rw [eq_comm,decide_eq_true_iff]; exact ⟨by simp_all,by omega,by omega,by omega,by omega,by omega,by omega,fun j h9=>hj j (by omega)⟩),rfl⟩
 refine xpF rfl (xmf rfl (xf 1 zbi rfl (xli 2 zae rfl rfl (TL.lss rfl rfl rfl rfl (fun q11=>?_) (fun q11=>?_)))))
 refine xpH rfl (xmt rfl (xo rfl (xo rfl (xo rfl (xo rfl (xo rfl (xo rfl (xpT rfl ?_))))))))
 refine dT rfl (xaf rfl (dR (TQ.blockRet (TQ.thenRet (TQ.thenRet (TQ.blockRet (TQ.thenRet ?_)))))))
 refine FQ.ret1 (v:=(.bool false)) (Bs:=[_]) [0] rfl rfl rfl ⟨rfl,trivial⟩ ?_
 first | exact ⟨congrArg Value.bool (by rw [eq_comm,decide_eq_false_iff_not]; rintro ⟨c1,c2,c3,c4,c5,c6,c7,c8⟩; first | omega | (simp_all; done) | (have c9:=c8 i (by omega); have c91:=c9.u; have c92:=c9.v; omega)),rfl⟩ | exact ⟨congrArg Value.bool (by rw [eq_comm,decide_eq_true_iff]; exact ⟨by simp_all,by omega,by omega,by omega,by omega,by omega,by omega,fun j h9=>hj j (by omega)⟩),rfl⟩
 refine xpF rfl (xmf rfl (xf 1 zbi rfl (xli 2 zae rfl rfl (xf 0 zbk rfl (xf 0 zaz rfl (xli 1 zae rfl rfl (TL.geq rfl rfl rfl rfl (fun q12=>?_) (fun q12=>?_))))))))
 refine xpH rfl (dT rfl (xaf rfl (dR (TQ.blockRet (TQ.thenRet (TQ.thenRet (TQ.blockRet (TQ.thenRet ?_))))))))
 refine FQ.ret1 (v:=(.bool false)) (Bs:=[_]) [0] rfl rfl rfl ⟨rfl,trivial⟩ ?_
 first | exact ⟨congrArg Value.bool (by rw [eq_comm,decide_eq_false_iff_not]; rintro ⟨c1,c2,c3,c4,c5,c6,c7,c8⟩; first | omega | (simp_all; done) | (have c9:=c8 i (by omega); have c91:=c9.u; have c92:=c9.v; omega)),rfl⟩ | exact ⟨congrArg Value.bool (by rw [eq_comm,decide_eq_true_iff]; exact ⟨by simp_all,by omega,by omega,by omega,by omega,by omega,by omega,fun j h9=>hj j (by omega)⟩),rfl⟩
 refine xpF rfl (TL.done (TQ.then (TC.condF rfl (TC.skip (TQ.inBlock (TQ.then (TC.region (TL.add (((i+1:Nat):Int)) rfl rfl (wrN (by omega)) rfl rfl ?_))))))))
 refine xmi rfl (TL.done (TQ.roundK (i+1) ⟨⟨by omega,fun j h9=>by by_cases he:j=i; subst he; exact ⟨by omega,by omega⟩; exact hj j (by omega)⟩,by omega⟩ ⟨rfl,trivial⟩ trivial (kE3 rfl rfl rfl trivial) (kL2 rfl rfl trivial)))
 refine dS (TC.condF rfl (TC.exit (TQ.thenExit (TQ.thenExit (TQ.blockHere (TQ.then (sA (xat rfl ?_))))))))
 refine dR ?_
 refine FQ.ret1 (v:=(.bool true)) (Bs:=[_]) [0] rfl rfl rfl ⟨rfl,trivial⟩ ?_
 first | exact ⟨congrArg Value.bool (by rw [eq_comm,decide_eq_false_iff_not]; rintro ⟨c1,c2,c3,c4,c5,c6,c7,c8⟩; first | omega | (simp_all; done) | (have c9:=c8 i (by omega); have c91:=c9.u; have c92:=c9.v; omega)),rfl⟩ | exact ⟨congrArg Value.bool (by rw [eq_comm,decide_eq_true_iff]; exact ⟨by simp_all,by omega,by omega,by omega,by omega,by omega,by omega,fun j h9=>hj j (by omega)⟩),rfl⟩
 refine xnf rfl (xmt rfl (xo rfl (xo rfl (xo rfl (xo rfl (xpT rfl (xmt rfl (xo rfl ?_))))))))
 refine xo rfl (xo rfl (xo rfl (xpT rfl (xmt rfl (xo rfl (xo rfl (xo rfl (xo rfl ?_))))))))
 refine xpT rfl (xmt rfl (xo rfl (xo rfl (xo rfl (xo rfl (xpT rfl (xmt rfl (xo rfl ?_))))))))
 refine xo rfl (xo rfl (xo rfl (xpT rfl (xmt rfl (xo rfl (xo rfl (xo rfl (xo rfl ?_))))))))
 refine xo rfl (xo rfl (xo rfl (xpT rfl (dT rfl (xaf rfl (dRR ?_))))))
 refine FQ.ret1 (v:=(.bool false)) (Bs:=[_]) [0] rfl rfl rfl ⟨rfl,trivial⟩ ?_
 first | exact ⟨congrArg Value.bool (by rw [eq_comm,decide_eq_false_iff_not]; rintro ⟨c1,c2,c3,c4,c5,c6,c7,c8⟩; first | omega | (simp_all; done) | (have c9:=c8 i (by omega); have c91:=c9.u; have c92:=c9.v; omega)),rfl⟩ | exact ⟨congrArg Value.bool (by rw [eq_comm,decide_eq_true_iff]; exact ⟨by simp_all,by omega,by omega,by omega,by omega,by omega,by omega,fun j h9=>hj j (by omega)⟩),rfl⟩
theorem zd6 {l:Lay} (hl:l.Ok) {pb ab mb:Nat} {av gv:Value} {σ:Array UInt64} {v:Int} {pr par rt:Int→Int} {g:G} (hv:0≤v∧v<l.V) (hK:Lk0 l pr σ par rt g):FnD Tryz.prog 27 [.pointer (some ⟨pb,0,none⟩),.int .i64 v] [pt pb (.cells #[.int .i64 l.V,.int .i64 l.S,.int .i64 l.T,.pointer (some ⟨ab,0,none⟩),.int .i64 l.V,.int .i64 l.S,.int .i64 l.T,.iface 88 (.agg #[.pointer (some ⟨ab,0,none⟩)]),.int .i64 1,.int .i64 0,.int .i64 l.V,.int .i64 l.S,.int .i64 l.T,.iface 88 (.agg #[.pointer (some ⟨ab,0,none⟩)]),av,gv] 53),zar ab mb 140 71 (σ)] (.int .i64 (rt (l.vertex 0 v))) [pt pb (.cells #[.int .i64 l.V,.int .i64 l.S,.int .i64 l.T,.pointer (some ⟨ab,0,none⟩),.int .i64 l.V,.int .i64 l.S,.int .i64 l.T,.iface 88 (.agg #[.pointer (some ⟨ab,0,none⟩)]),.int .i64 1,.int .i64 0,.int .i64 l.V,.int .i64 l.S,.int .i64 l.T,.iface 88 (.agg #[.pointer (some ⟨ab,0,none⟩)]),av,gv] 53),zar ab mb 140 71 (σ)]:=by
 have hrt:=hK.root hl (zbn hl (σ:=σ) hv).2 (k:=561) (by decide)
 refine Fn.enter (Tryz.func27) rfl rfl (fun w0 R=>?_)
 refine sA (xai rfl (dS (TC.draw [(0,true),(1,true),(2,true),(3,true),(4,true),(5,true),(6,true),(7,true),(8,true),(9,true),(10,true),(11,true),(12,true),(13,false),(14,false),(15,true)] [0] fc_m (by kernel_rfl) (xmp rfl (xN0 rfl (xf 4 zlW rfl (xf 0 zcR rfl (xf 0 zbz rfl ?_))))))))
 refine xf 0 zcS rfl (xf 0 zaH rfl (xL6 0 zaf rfl rfl (xmp rfl (xN0 rfl (xf 0 zhH rfl (xL3 0 zaa rfl rfl (xmi rfl (TL.callD [] [] (zdo hl) ⟨rfl,rfl,rfl,trivial⟩ trivial zhM rfl rfl rfl rfl rfl (kL1 rfl trivial) ?_))))))))
 refine TL.callD [1] [1] (zh3 (p:=⟨1,0⟩) zd7 hl hrt) ⟨rfl,rfl,trivial⟩ ⟨rfl,trivial⟩ zlc rfl rfl rfl rfl rfl (kL1 rfl trivial) (xai rfl (dR ?_))
 refine FQ.ret1 (v:=(.int _ _)) (Bs:=[_,_]) [0,1] rfl rfl rfl ⟨rfl,rfl,trivial⟩ ?_
 exact ⟨rfl,rfl⟩
set_option maxHeartbeats 4000000 in
theorem zl7 {l:Lay} (hl:l.Ok)  {da ea na:Option Addr} {dn dc en ec nn nc:Nat} {Ad:Assn} {bd offd be offe bn offn:Nat} {fd:Nat→Int} {fe fn:Nat→Op2} (hda:0<dn→da=some ⟨bd,offd,none⟩) (hAd:zaV Ad encU 1 bd offd dn fd) (hfd:∀ i,i<dn→0≤fd i∧fd i<18446744073709551616) (hea:0<en→ea=some ⟨be,offe,none⟩) (hAe:zaV Ad zfq 2 be offe en fe) (hec:en≤ec) (hna:0<nn→na=some ⟨bn,offn,none⟩) (hAn:zaV Ad zfq 2 bn offn nn fn) (hnc:nn≤nc) (hdn:dn≤60) (hen:en≤30) (hnn:(nn:Int)≤l.T)  : Go.Eng.Fn Tryz.prog 16 [.agg #[.int .i64 l.V,.int .i64 l.S,.int .i64 l.T,.slice da dn dc,.slice ea en ec,.slice na nn nc]] [Ad] (fun x Bs=>∃ pb ab mb av gv bs gos σ par rt g,x=.pointer (some ⟨pb,0,none⟩)∧Bs=[Ad,pt pb (.cells #[.int .i64 l.V,.int .i64 l.S,.int .i64 l.T,.pointer (some ⟨ab,0,none⟩),.int .i64 l.V,.int .i64 l.S,.int .i64 l.T,.iface 88 (.agg #[.pointer (some ⟨ab,0,none⟩)]),.int .i64 1,.int .i64 0,.int .i64 l.V,.int .i64 l.S,.int .i64 l.T,.iface 88 (.agg #[.pointer (some ⟨ab,0,none⟩)]),av,gv] 53),zar ab mb 140 71 (σ),ownA zhm 1 55 (av) (bs),ownA zgb 1 57 (gv) (gos),bigA (zau 130 157 189 3 l (bs) (ts0 l fn)) (nn)]∧bs.size=nn∧(gos.size=nn∧∀ j,j<nn→gos[j]! =none)∧Lk0 l (fun x=>if dn=0 then 0 else fd (x.toNat % dn)) (σ) par rt g∧(∀ v:Int,0≤v∧v<l.V→gf l σ (rt (l.vertex 0 v)) 0=0)∧∀ x,l.nd x→(∀ v:Int,0≤v∧v<l.V→x≠rt (l.vertex 0 v))→gf l σ x 0=65535):=by
 have hvt:=za3 hl
 have hnb:=zaI hl
 have hcb:=zdV hl
 have hlb:=zb3 hl
 have hob:=zbQ hl
 have hT1:=zlz hl
 have hBn:=zox hl hfd (N:=l.cells.toNat) (by omega)
 obtain ⟨σ0,hσ0⟩:∃ s:M,zhP l dn fd (Array.replicate l.cells.toNat 0)=s:=⟨_,rfl⟩
 rw [hσ0] at hBn
 refine Fn.enter (Tryz.func16) rfl rfl (fun w0 R=>?_)
 refine sA (xB 1 rfl (fun bk1=>(TL.asg (.pointer none) rfl rfl rfl (dA (xf 0 zbk rfl (xL3 1 zaa rfl rfl (TL.alloc 2 (cs:=#[.int .i64 0,.int .i64 0,.int .i64 0]) znB rfl rfl rfl (fun _=>trivial) (fun bk2=>(TL.stW 2 3 [_,_,_] rfl rfl rfl rfl rfl rfl zaa rfl rfl trivial (dA ?_))))))))))
 refine xL3 2 zaa rfl rfl (xf 3 zhK rfl (xls 1 zcx rfl rfl (TL.call [0] [0,3] (zlq hl hda hAd hfd (by omega)) ⟨rfl,rfl,trivial⟩ ⟨rfl,trivial⟩ zqq rfl rfl rfl rfl ?_)))
 rintro v Bs ⟨ab,mb,rfl,rfl⟩
 refine ⟨rfl,trivial,?_⟩
 rw [hσ0]
 refine xmu rfl (TL.ext (.pointer (some ⟨_,_,none⟩)) rfl rfl rfl rfl (xei rfl rfl (xap rfl (xai rfl (dB (xmi rfl (TL.neqF rfl rfl (by decide) rfl rfl (xmf rfl ?_))))))))
 refine xmp rfl (TL.nilP false rfl rfl zqf rfl rfl rfl (xpF rfl (dF rfl (xmp rfl (TL.callD [] [] zgh ⟨rfl,trivial⟩ trivial zlf rfl rfl rfl rfl rfl trivial (TL.bld [.int .i64 0,.int .i64 0] [(.int _ _)] [_,_] znA zqe ⟨rfl,trivial⟩ ⟨rfl,rfl⟩ rfl rfl (TL.alloc 4 (cs:=#[.pointer none]) znx rfl rfl rfl (fun _=>trivial) (fun bk4=>(TL.alloc 5 (cs:=#[.int .i64 0,.int .i64 0]) znA rfl rfl rfl (fun _=>trivial) (fun bk5=>?_))))))))))
 refine TL.stW 4 1 [_] rfl rfl rfl rfl rfl rfl zdS rfl rfl trivial (TL.stW 5 2 [_,_] rfl rfl rfl rfl rfl rfl zcq rfl rfl trivial (dA (xL3 2 zaa rfl rfl (TL.ldA 4 1 [_] rfl rfl rfl zdS rfl rfl (TL.miN (v:=(.agg _)) rfl zgU rfl rfl (xL2 5 zcq rfl rfl (TL.callD [] [] (zpt (p:=⟨1,0⟩)) ⟨rfl,rfl,rfl,trivial⟩ trivial ztt rfl rfl rfl rfl rfl trivial (TL.alloc 6 (cs:=#[.int .i64 0,.int .i64 0,.int .i64 0,.nilIface,.int .i64 0,.int .i64 0,.int .i64 0,.int .i64 0,.int .i64 0,.nilIface]) znz rfl rfl rfl (fun _=>trivial) (fun bk6=>?_)))))))))
 refine TL.stW 6 10 [_,_,_,_,_,_,_,_,_,_] rfl rfl rfl rfl rfl rfl zdA rfl rfl trivial (dA (xai rfl (dB (xf 4 zhJ rfl (xls 1 zdZ rfl rfl (xz zaL rfl (xmi rfl (dK ?_))))))))
 refine TC.loopK (X:=Nat×Nat×M×G) [1,2,3,4,6,7,8,46,47] [0,1,2,4,5,6] (fun ⟨i,n,σ1,g1⟩=>[(48,.int .i64 ((i:Nat):Int)),(9,.int .i64 ((n:Nat):Int))]) (fun ⟨i,n,σ1,g1⟩=>[(3,zar ab mb 140 71 (σ1))]) (fun ⟨i,n,σ1,g1⟩=>i≤en∧n≤i∧Writ l (fun x=>if dn=0 then 0 else fd (x.toNat % dn)) ⟨1,0⟩ (parent l σ0) (fun _=>0) σ1 g1∧(∀ s,g1.has s=true→s<((n:Nat):Int))∧Rch l ⟨1,0⟩ σ0 σ1) (fun ⟨i,n,σ1,g1⟩=>en - i) ((0,0,σ0,G0)) ⟨Nat.zero_le _,Nat.le_refl _,hBn.w0 hl,fun s hs=>(by cases hs),.refl⟩ ⟨rfl,rfl,trivial⟩ ⟨rfl,trivial⟩ (fun y hI=>?_)
 obtain ⟨i,n,σ1,g1⟩:=y
 obtain ⟨hi,hni,hW1,hm,hR1⟩:=hI
 replace hi:i≤en:=hi
 replace hni:n≤i:=hni
 replace hm:∀ s,g1.has s=true→s<((n:Nat):Int):=hm
 refine TC.sub (env':=[(48,_),(9,_),(1,_),(2,_),(3,_),(4,_),(6,_),(7,_),(8,_),(46,_),(47,_)]) (L':=[(3,_),(0,_),(1,_),(2,_),(4,_),(5,_),(6,_)]) ⟨rfl,rfl,rfl,rfl,rfl,rfl,rfl,rfl,rfl,rfl,rfl,trivial⟩ ⟨rfl,rfl,rfl,rfl,rfl,rfl,rfl,trivial⟩ (sA (TL.lss rfl rfl rfl rfl (fun q1=>?_) (fun q1=>?_)))
 refine dS (TC.condT rfl (TC.skip (TQ.then (TC.seq (TC.block (sA (TL.iaO rfl hea rfl zaL (by omega) rfl rfl (TL.ldRx 0 [_,_] rfl rfl hAe (by omega) rfl zep rfl rfl ?_))))))))
 refine TL.alloc 7 (cs:=#[.int .i64 0,.int .i64 0]) zny rfl rfl rfl (fun _=>trivial) (fun bk7=>(TL.stW 7 2 [_,_] rfl rfl rfl rfl rfl rfl zep rfl rfl trivial (dB (xf 0 zbj rfl (xli 7 zae rfl rfl (xf 1 zbi rfl (xli 7 zae rfl rfl (TL.eql rfl rfl rfl rfl (fun q2=>?_) (fun q2=>?_)))))))))
 refine xmt rfl (xo rfl (xo rfl (xo rfl (xpT rfl (xmt rfl (xo rfl (xo rfl (xo rfl ?_))))))))
 refine xo rfl (xo rfl (xpT rfl (xmt rfl (xo rfl (xo rfl (xo rfl (xpT rfl (xmt rfl ?_))))))))
 refine xo rfl (xo rfl (xo rfl (xo rfl (xo rfl (xpT rfl (xmt rfl (xo rfl (xo rfl ?_))))))))
 refine xo rfl (xo rfl (xpT rfl (TL.done (TQ.then (TC.condT rfl (TC.exit (TQ.thenExit (TQ.blockHere ?_))))))))
 refine TQ.then (TC.region (TL.add (((i+1:Nat):Int)) rfl rfl (wrN (by omega)) rfl rfl (xmi rfl (TL.done (TQ.roundK ((i+1,n,σ1,g1)) ⟨⟨(show i+1≤en by omega),(show n≤i+1 by omega),hW1,hm,hR1⟩,(show en - (i+1)<en - i by omega)⟩ ⟨rfl,rfl,trivial⟩ ⟨rfl,trivial⟩ (kE8 rfl rfl rfl rfl rfl rfl rfl rfl (kE1 rfl trivial)) (kL6 rfl rfl rfl rfl rfl rfl trivial))))))
 refine xmf rfl (xf 0 zbj rfl (xli 7 zae rfl rfl (TL.lss rfl rfl rfl rfl (fun q3=>?_) (fun q3=>?_))))
 refine xpH rfl (xmt rfl (xo rfl (xo rfl (xo rfl (xo rfl (xo rfl (xpT rfl (xmt rfl ?_))))))))
 refine xo rfl (xo rfl (xo rfl (xpT rfl (xmt rfl (xo rfl (xo rfl (xo rfl (xo rfl ?_))))))))
 refine xo rfl (xpT rfl (xmt rfl (xo rfl (xo rfl (xo rfl (xo rfl (xpT rfl (TL.done ?_))))))))
 refine TQ.then (TC.condT rfl (TC.exit (TQ.thenExit (TQ.blockHere (TQ.then (TC.region (TL.add (((i+1:Nat):Int)) rfl rfl (wrN (by omega)) rfl rfl (xmi rfl ?_))))))))
 refine TL.done (TQ.roundK ((i+1,n,σ1,g1)) ⟨⟨(show i+1≤en by omega),(show n≤i+1 by omega),hW1,hm,hR1⟩,(show en - (i+1)<en - i by omega)⟩ ⟨rfl,rfl,trivial⟩ ⟨rfl,trivial⟩ (kE8 rfl rfl rfl rfl rfl rfl rfl rfl (kE1 rfl trivial)) (kL6 rfl rfl rfl rfl rfl rfl trivial))
 refine xpF rfl (xmf rfl (xf 0 zbj rfl (xli 7 zae rfl rfl (xf 0 zaz rfl (xli 2 zae rfl rfl (TL.geq rfl rfl rfl rfl (fun q4=>?_) (fun q4=>?_)))))))
 refine xpH rfl (xmt rfl (xo rfl (xo rfl (xo rfl (xpT rfl (xmt rfl (xo rfl (xo rfl ?_))))))))
 refine xo rfl (xo rfl (xo rfl (xpT rfl (xmt rfl (xo rfl (xo rfl (xo rfl (xo rfl ?_))))))))
 refine xpT rfl (TL.done (TQ.then (TC.condT rfl (TC.exit (TQ.thenExit (TQ.blockHere (TQ.then (TC.region ?_))))))))
 refine TL.add (((i+1:Nat):Int)) rfl rfl (wrN (by omega)) rfl rfl (xmi rfl (TL.done (TQ.roundK ((i+1,n,σ1,g1)) ⟨⟨(show i+1≤en by omega),(show n≤i+1 by omega),hW1,hm,hR1⟩,(show en - (i+1)<en - i by omega)⟩ ⟨rfl,rfl,trivial⟩ ⟨rfl,trivial⟩ (kE8 rfl rfl rfl rfl rfl rfl rfl rfl (kE1 rfl trivial)) (kL6 rfl rfl rfl rfl rfl rfl trivial))))
 refine xpF rfl (xmf rfl (xf 1 zbi rfl (xli 7 zae rfl rfl (TL.lss rfl rfl rfl rfl (fun q5=>?_) (fun q5=>?_)))))
 refine xpH rfl (xmt rfl (xo rfl (xo rfl (xo rfl (xo rfl (xo rfl (xpT rfl (xmt rfl ?_))))))))
 refine xo rfl (xo rfl (xo rfl (xo rfl (xpT rfl (TL.done (TQ.then (TC.condT rfl (TC.exit ?_))))))))
 refine TQ.thenExit (TQ.blockHere (TQ.then (TC.region (TL.add (((i+1:Nat):Int)) rfl rfl (wrN (by omega)) rfl rfl (xmi rfl (TL.done (TQ.roundK ((i+1,n,σ1,g1)) ⟨⟨(show i+1≤en by omega),(show n≤i+1 by omega),hW1,hm,hR1⟩,(show en - (i+1)<en - i by omega)⟩ ⟨rfl,rfl,trivial⟩ ⟨rfl,trivial⟩ (kE8 rfl rfl rfl rfl rfl rfl rfl rfl (kE1 rfl trivial)) (kL6 rfl rfl rfl rfl rfl rfl trivial))))))))
 refine xpF rfl (xmf rfl (xf 1 zbi rfl (xli 7 zae rfl rfl (xf 0 zaz rfl (xli 2 zae rfl rfl (TL.geq rfl rfl rfl rfl (fun q6=>?_) (fun q6=>?_)))))))
 refine xpH rfl (xmt rfl (xo rfl (xo rfl (xo rfl (xo rfl (xpT rfl (TL.done (TQ.then ?_))))))))
 refine TC.condT rfl (TC.exit (TQ.thenExit (TQ.blockHere (TQ.then (TC.region (TL.add (((i+1:Nat):Int)) rfl rfl (wrN (by omega)) rfl rfl (xmi rfl (TL.done ?_))))))))
 refine TQ.roundK ((i+1,n,σ1,g1)) ⟨⟨(show i+1≤en by omega),(show n≤i+1 by omega),hW1,hm,hR1⟩,(show en - (i+1)<en - i by omega)⟩ ⟨rfl,rfl,trivial⟩ ⟨rfl,trivial⟩ (kE8 rfl rfl rfl rfl rfl rfl rfl rfl (kE1 rfl trivial)) (kL6 rfl rfl rfl rfl rfl rfl trivial)
 refine xpF rfl (xmf rfl (xmi rfl (xf 1 zbl rfl (xli 2 zae rfl rfl (TL.geq rfl rfl rfl rfl (fun q7=>?_) (fun q7=>?_))))))
 refine xpH rfl (TL.done (TQ.then (TC.condT rfl (TC.exit (TQ.thenExit (TQ.blockHere (TQ.then (TC.region ?_))))))))
 refine TL.add (((i+1:Nat):Int)) rfl rfl (wrN (by omega)) rfl rfl (xmi rfl (TL.done (TQ.roundK ((i+1,n,σ1,g1)) ⟨⟨(show i+1≤en by omega),(show n≤i+1 by omega),hW1,hm,hR1⟩,(show en - (i+1)<en - i by omega)⟩ ⟨rfl,rfl,trivial⟩ ⟨rfl,trivial⟩ (kE8 rfl rfl rfl rfl rfl rfl rfl rfl (kE1 rfl trivial)) (kL6 rfl rfl rfl rfl rfl rfl trivial))))
 refine xpF rfl (dF rfl (xf 0 zcR rfl (xf 0 zbz rfl (xf 6 za7 rfl (xL4 6 zdf rfl rfl (xf 0 zbj rfl (xli 7 zae rfl rfl (xf 1 zbi rfl ?_))))))))
 refine xli 7 zae rfl rfl (TL.callD [3] [3] (znv zd7 hl) ⟨rfl,rfl,rfl,trivial⟩ ⟨rfl,trivial⟩ zql rfl rfl rfl rfl rfl trivial (xmu rfl (xei rfl rfl (TL.ext (.bool _) rfl rfl rfl rfl (TL.ext (.bool _) rfl rfl rfl rfl (xai rfl (xab rfl (xab rfl ?_))))))))
 refine dA (xmb rfl (TL.cases rfl (fun q8=>?_) (fun q8=>?_)))
 refine xnt rfl (TL.done (TQ.then (TC.condF rfl (TC.skip (TQ.inBlock (TQ.then (TC.region (TL.add (((i+1:Nat):Int)) rfl rfl (wrN (by omega)) rfl rfl ?_))))))))
 refine xmi rfl (TL.done (TQ.roundK ((i+1,n,σ1,g1)) ⟨⟨(show i+1≤en by omega),(show n≤i+1 by omega),hW1,hm,hR1⟩,(show en - (i+1)<en - i by omega)⟩ ⟨rfl,rfl,trivial⟩ ⟨rfl,trivial⟩ (kE8 rfl rfl rfl rfl rfl rfl rfl rfl (kE1 rfl trivial)) (kL6 rfl rfl rfl rfl rfl rfl trivial)))
 refine xnf rfl (dT rfl (xL10 6 zdA rfl rfl (xmi rfl (xf 0 zbj rfl (xli 7 zae rfl rfl (xf 1 zbi rfl (xli 7 zae rfl rfl ?_)))))))
 obtain ⟨t2,σ2,g2,hins,hW2,hm2,hR3⟩:=hW1.insN hl zre hT1 hm (u:=(fe i).u) (v:=(fe i).v) (by omega) ⟨by omega,by omega⟩ ⟨by omega,by omega⟩ (by assumption) (by assumption)
 have hR2:=hR1.trans hR3
 refine TL.callD [3] [3] (zlS zd7 hl hins) ⟨rfl,rfl,rfl,rfl,trivial⟩ ⟨rfl,trivial⟩ zto rfl rfl rfl rfl rfl trivial (dG (xmi rfl (TL.add (((n+1:Nat):Int)) rfl rfl (wrN (by omega)) rfl rfl (xai rfl (dI (TL.add (((i+1:Nat):Int)) rfl rfl (wrN (by omega)) rfl rfl (xmi rfl (TL.done ?_))))))))
 refine TQ.roundK ((i+1,n+1,σ2,g2)) ⟨⟨(show i+1≤en by omega),(show n+1≤i+1 by omega),hW2,hm2,hR2⟩,(show en - (i+1)<en - i by omega)⟩ ⟨rfl,rfl,trivial⟩ ⟨rfl,trivial⟩ (kE8 rfl rfl rfl rfl rfl rfl rfl rfl (kE1 rfl trivial)) (kL6 rfl rfl rfl rfl rfl rfl trivial)
 refine dS (TC.condF rfl (TC.exit (TQ.thenExit (TQ.thenExit (TQ.blockHere (TQ.then (sA (xL2 5 zcq rfl rfl ?_))))))))
 refine TL.ldA 4 1 [_] rfl rfl rfl zdS rfl rfl (TL.miN (v:=(.agg _)) rfl zgU rfl rfl (xL3 2 zaa rfl rfl ?_))
 obtain rfl:i=en:=by omega
 refine TL.callD [3] [3] (zlM (p:=⟨1,0⟩) zd7 (zcF) hl) ⟨rfl,rfl,rfl,trivial⟩ ⟨rfl,trivial⟩ ztq rfl rfl rfl rfl rfl trivial (dB (xai rfl (dK (TC.loopK (X:=Nat) [1,2,3,4,6,7,8] [0,1,2,4,5,6] (fun x=>[(15,.int .i64 ((x+1:Nat):Int))]) (fun x=>[(3,zar ab mb 140 71 (lkN l x (zaS l ⟨1,0⟩ σ1 0 true)))]) (fun x=>(x:Int)≤l.nodes) (fun x=>l.nodes.toNat - x) (0) (by omega) ⟨rfl,trivial⟩ ⟨rfl,trivial⟩ (fun x hI=>?_)))))
 refine TC.sub (env':=[(15,_),(1,_),(2,_),(3,_),(4,_),(6,_),(7,_),(8,_)]) (L':=[(3,_),(0,_),(1,_),(2,_),(4,_),(5,_),(6,_)]) ⟨rfl,rfl,rfl,rfl,rfl,rfl,rfl,rfl,trivial⟩ ⟨rfl,rfl,rfl,rfl,rfl,rfl,rfl,trivial⟩ (sB (xmi rfl (xL3 2 zaa rfl rfl (TL.callD [] [] (zdH hl) ⟨rfl,trivial⟩ trivial zg3 rfl rfl rfl rfl rfl trivial (TL.leq rfl rfl rfl rfl (fun q2=>?_) (fun q2=>?_))))))
 refine TL.done (TQ.then (TC.condT rfl (TC.skip (TQ.then (TC.seq (TC.block (sB (xL3 2 zaa rfl rfl ?_))))))))
 refine xmi rfl (TL.callD [] [] (zid hl) ⟨rfl,rfl,trivial⟩ trivial zle rfl rfl rfl rfl rfl trivial (xmu rfl (TL.ext (.agg _) rfl rfl rfl rfl (TL.ext (.bool _) rfl rfl rfl rfl (TL.alloc 8 (cs:=#[.bool false,.int .i64 0,.int .i64 0,.int .i64 0,.int .i64 0]) zf2 rfl rfl rfl (fun _=>trivial) (fun bk8=>(TL.stW 8 5 [_,_,_,_,_] rfl rfl rfl rfl rfl rfl zcp rfl rfl trivial (xab rfl (dA ?_)))))))))
 refine xf 1 zfL rfl (xli 8 zae rfl rfl (TL.eql rfl rfl rfl rfl (fun q3=>?_) (fun q3=>?_)))
 refine TL.done (TQ.then (TC.condT rfl (TC.draw [(0,true),(1,true),(2,true),(3,true),(4,true),(5,false),(6,false)] [2,4,5] fc_m (by kernel_rfl) (xL2 5 zcq rfl rfl (TL.ldA 4 1 [_] rfl rfl rfl zdS rfl rfl (TL.miN (v:=(.agg _)) rfl zgU rfl rfl (xL3 2 zaa rfl rfl (xmi rfl ?_))))))))
 refine TL.callD [] [] (zaE hl) ⟨rfl,rfl,rfl,trivial⟩ trivial zbm rfl rfl rfl rfl rfl (kL3 rfl rfl rfl trivial) (TL.callD [3] [3] (zlp (p:=⟨1,0⟩) zd7) ⟨rfl,rfl,rfl,trivial⟩ ⟨rfl,trivial⟩ zqk rfl rfl rfl rfl rfl (kL3 rfl rfl rfl trivial) (dG (xmp rfl (xL3 2 zaa rfl rfl (xmi rfl (TL.callD [] [] (zaE hl) ⟨rfl,rfl,rfl,trivial⟩ trivial zbm rfl rfl rfl rfl rfl trivial (TL.callD [3] [3] (zft (by decide)) ⟨rfl,rfl,rfl,trivial⟩ ⟨rfl,trivial⟩ zhL rfl rfl rfl rfl rfl trivial (dI ?_))))))))
 refine xmi rfl (TL.add (((x+2:Nat):Int)) rfl rfl (wrN (by omega)) rfl rfl (xai rfl (TL.done (TQ.roundK (x+1) ⟨(by omega),(by omega)⟩ ⟨rfl,trivial⟩ ⟨congrArg (fun z=>some (zar ab mb 140 71 (z))) (by first | exact zsQ (by assumption) | exact zsR (by assumption)),trivial⟩ (kE7 rfl rfl rfl rfl rfl rfl rfl trivial) (kL6 rfl rfl rfl rfl rfl rfl trivial)))))
 refine TL.done (TQ.then (TC.condF rfl (TC.skip (TQ.then (TC.region (xmp rfl (xL3 2 zaa rfl rfl (xmi rfl ?_))))))))
 refine TL.callD [] [] (zaE hl) ⟨rfl,rfl,rfl,trivial⟩ trivial zbm rfl rfl rfl rfl rfl trivial (TL.callD [3] [3] (zft (by decide)) ⟨rfl,rfl,rfl,trivial⟩ ⟨rfl,trivial⟩ zhL rfl rfl rfl rfl rfl trivial (dI (xmi rfl (TL.add (((x+2:Nat):Int)) rfl rfl (wrN (by omega)) rfl rfl (xai rfl (TL.done (TQ.roundK (x+1) ⟨(by omega),(by omega)⟩ ⟨rfl,trivial⟩ ⟨congrArg (fun z=>some (zar ab mb 140 71 (z))) (by first | exact zsQ (by assumption) | exact zsR (by assumption)),trivial⟩ (kE7 rfl rfl rfl rfl rfl rfl rfl trivial) (kL6 rfl rfl rfl rfl rfl rfl trivial))))))))
 refine dE rfl (sA (xL2 5 zcq rfl rfl (TL.ldA 4 1 [_] rfl rfl rfl zdS rfl rfl (TL.miN (v:=(.agg _)) rfl zgU rfl rfl (xL3 2 zaa rfl rfl (TL.callD [3] [3] (zrc (p:=⟨1,0⟩) zd7 (zcF) hl) ⟨rfl,rfl,rfl,trivial⟩ ⟨rfl,trivial⟩ ztn rfl rfl rfl rfl rfl trivial (dA (xL3 2 zaa rfl rfl ?_))))))))
 refine xmp rfl (xL10 6 zdA rfl rfl (TL.bld [.int .i64 0,.int .i64 0,.int .i64 0,.pointer none,.int .i64 0,.int .i64 0,.int .i64 0,.nilIface,.int .i64 0,.int .i64 0,.int .i64 0,.int .i64 0,.int .i64 0,.nilIface,.slice none 0 0,.slice none 0 0] [(.agg _),(.pointer (some ⟨_,_,none⟩)),(.agg _)] [_,_,_,_,_,_,_,_,_,_,_,_,_,_,_,_] zs2 zs8 ⟨rfl,rfl,rfl,trivial⟩ ⟨rfl,rfl⟩ rfl rfl (xB 9 rfl (fun bk9=>(xap rfl (dS (TC.seq ?_)))))))
 obtain rfl:x=l.nodes.toNat:=by omega
 obtain ⟨par,rt,hK,hcl⟩:=zsm hl hBn hW1 hR1
 refine TC.region (xf 0 zaz rfl (xli 2 zae rfl rfl (xmi rfl (dK (TC.loopK (X:=Nat) [1,2,3,4,18,155] [0,1,2,4,5,6,9] (fun v=>[(156,.int .i64 ((v:Nat):Int))]) (fun v=>[(3,zar ab mb 140 71 (frN l rt v (zaS l ⟨1,0⟩ (lkN l l.nodes.toNat (zaS l ⟨1,0⟩ σ1 0 true)) 1 false)))]) (fun v=>v≤l.V) (fun v=>l.V - v) (0) (Nat.zero_le _) ⟨rfl,trivial⟩ ⟨rfl,trivial⟩ (fun v hI=>(TC.sub (env':=[(156,_),(1,_),(2,_),(3,_),(4,_),(18,_),(155,_)]) (L':=[(3,_),(0,_),(1,_),(2,_),(4,_),(5,_),(6,_),(9,_)]) ⟨rfl,rfl,rfl,rfl,rfl,rfl,rfl,trivial⟩ ⟨rfl,rfl,rfl,rfl,rfl,rfl,rfl,rfl,trivial⟩ (sA ?_))))))))
 refine TL.lss rfl rfl rfl rfl (fun q3=>?_) (fun q3=>?_)
 refine dS (TC.condT rfl (TC.skip (TQ.then (TC.seq (TC.block (sA (xmi rfl (xai rfl ?_))))))))
 refine TL.done (TQ.then ?_)
 have hK2:=(zk8 hl hK v (by omega)).1
 refine TC.draw [(0,true),(1,true),(2,true),(3,true),(4,false),(5,false),(6,false)] [2] fc_m (by kernel_rfl) (xmp rfl (xL3 2 zaa rfl rfl (xmp rfl (xmi rfl (TL.callD [9,3] [9,3] (zd6 hl ⟨by omega,by omega⟩ hK2) ⟨rfl,rfl,trivial⟩ ⟨rfl,rfl,trivial⟩ zjf rfl rfl rfl rfl rfl (kL1 rfl trivial) (TL.callD [] [] (zaE hl) ⟨rfl,rfl,rfl,trivial⟩ trivial zbm rfl rfl rfl rfl rfl (kL1 rfl trivial) (TL.callD [3] [3] (zft (by decide)) ⟨rfl,rfl,rfl,trivial⟩ ⟨rfl,trivial⟩ zhL rfl rfl rfl rfl rfl (kL1 rfl trivial) (dI ?_))))))))
 refine TL.add (((v+1:Nat):Int)) rfl rfl (wrN (by omega)) rfl rfl (xmi rfl (TL.done (TQ.roundK (v+1) ⟨(by omega),(by omega)⟩ ⟨rfl,trivial⟩ ⟨rfl,trivial⟩ (kE6 rfl rfl rfl rfl rfl rfl trivial) (kL7 rfl rfl rfl rfl rfl rfl rfl trivial))))
 refine dS (TC.condF rfl (TC.exit (TQ.thenExit (TQ.thenExit (TQ.blockHere (TQ.then (TC.seq (TC.seq ?_))))))))
 obtain rfl:v=l.V:=by omega
 refine TC.nilA 10 (A:=ownA zhm 1 55 (.slice none 0 0) (#[])) (.inl ⟨rfl,rfl⟩) (TC.nilA 11 (A:=ownA zgb 1 57 (.slice none 0 0) (#[])) (.inl ⟨rfl,rfl⟩) (TC.nilA 12 (A:=bigA (zau 130 157 189 3 l (#[]) (ts0 l fn)) (0)) zoA (TC.region (xf 5 zbA rfl (xls 1 zdZ rfl rfl (xz zaL rfl (xmi rfl (dK ?_))))))))
 refine TC.loopK (X:=Nat×Value×Value×Array Nat×Array (Option Nat)) [2,3,18,168,169] [0,1,2,3,4,5,6] (fun ⟨i,av,gv,bs,gos⟩=>[(170,.int .i64 ((i:Nat):Int))]) (fun ⟨i,av,gv,bs,gos⟩=>[(9,pt bk9 (.cells #[.int .i64 l.V,.int .i64 l.S,.int .i64 l.T,.pointer (some ⟨ab,0,none⟩),.int .i64 l.V,.int .i64 l.S,.int .i64 l.T,.iface 88 (.agg #[.pointer (some ⟨ab,0,none⟩)]),.int .i64 1,.int .i64 0,.int .i64 l.V,.int .i64 l.S,.int .i64 l.T,.iface 88 (.agg #[.pointer (some ⟨ab,0,none⟩)]),av,gv] 53)),(10,ownA zhm 1 55 (av) (bs)),(11,ownA zgb 1 57 (gv) (gos)),(12,bigA (zau 130 157 189 3 l (bs) (ts0 l fn)) (i))]) (fun ⟨i,av,gv,bs,gos⟩=>i≤nn∧bs.size=i∧gos.size=i∧∀ j,j<i→gos[j]! =none) (fun ⟨i,av,gv,bs,gos⟩=>nn - i) ((0,.slice none 0 0,.slice none 0 0,#[],#[])) ⟨Nat.zero_le _,rfl,rfl,fun j hj=>absurd hj (Nat.not_lt_zero j)⟩ ⟨rfl,trivial⟩ ⟨rfl,rfl,rfl,rfl,trivial⟩ (fun y hI=>?_)
 obtain ⟨i,av,gv,bs,gos⟩:=y
 obtain ⟨hi,hbs,hgz,hgo⟩:=hI
 replace hi:i≤nn:=hi
 replace hbs:bs.size=i:=hbs
 replace hgz:gos.size=i:=hgz
 replace hgo:∀ j,j<i→gos[j]! =none:=hgo
 refine TC.sub (env':=[(170,_),(2,_),(3,_),(18,_),(168,_),(169,_)]) (L':=[(9,_),(10,_),(11,_),(12,_),(0,_),(1,_),(2,_),(3,_),(4,_),(5,_),(6,_)]) ⟨rfl,rfl,rfl,rfl,rfl,rfl,trivial⟩ ⟨rfl,rfl,rfl,rfl,rfl,rfl,rfl,rfl,rfl,rfl,rfl,trivial⟩ (sA (TL.lss rfl rfl rfl rfl (fun q4=>?_) (fun q4=>?_)))
 refine dS (TC.condT rfl (TC.skip (TQ.then (TC.seq (TC.block (sA (xmi rfl (TL.iaO rfl hna rfl zaL (by omega) rfl rfl ?_))))))))
 refine TL.ldRx 0 [_,_] rfl rfl hAn (by omega) rfl zep rfl rfl (TL.alloc 13 (cs:=#[.int .i64 0,.int .i64 0]) zny rfl rfl rfl (fun _=>trivial) (fun bk13=>(xai rfl (TL.stW 13 2 [_,_] rfl rfl rfl rfl rfl rfl zep rfl rfl trivial (dS (TC.draw2 [(0,true),(1,true),(2,true),(3,true),(4,true),(5,true),(6,true),(7,true),(8,true),(9,true),(10,true),(11,true),(12,false),(13,false),(14,false),(15,true),(16,true)] 17 [] [2,9,13] fc_m (by kernel_rfl) (xmp rfl (xmp rfl (xN0 rfl ?_)))))))))
 refine xf 14 zci rfl (xlv 9 zhD rfl rfl (xL3 2 zaa rfl rfl (xf 0 zbj rfl (xli 13 zae rfl rfl (xf 1 zbi rfl (xli 13 zae rfl rfl (xmi rfl (TL.add (((i+1:Nat):Int)) rfl rfl (wrN (by omega)) rfl rfl ?_))))))))
 refine TL.call [] [14] (zjz hl) ⟨rfl,rfl,rfl,rfl,trivial⟩ trivial znJ rfl rfl rfl rfl ?_
 rintro x Bs ⟨tb,rfl,rfl⟩
 refine ⟨rfl,(kL3 rfl rfl rfl trivial),?_⟩
 refine TL.bsN 15 [_] (zhm tb) zcg zs1 ⟨rfl,trivial⟩ rfl (lit1 rfl) rfl rfl (fun bk15=>⟨(kL3 rfl rfl rfl trivial),?_⟩)
 refine TL.appS 10 15 (d2:=#[tb]) rfl (rfl) rfl (fun _=>rfl) rfl rfl (row1 rfl) zof (by decide) zkb (by simp; omega) rfl rfl (fun v16=>⟨(kL3 rfl rfl rfl trivial),?_⟩)
 refine TL.ownW 10 rfl (fun a9 g9 c9 hv9 _ _=>?_)
 cases hv9
 refine xN0 rfl (xf 14 zci rfl (TL.late (TL.st 9 #[_,_,_,_,_,_,_,_,_,_,_,_,_,_,_,_] _ rfl rfl rfl rfl rfl rfl zhD rfl rfl trivial (dG (xmp rfl (xmp rfl (xN0 rfl (xf 15 zbe rfl ?_))))))))
 refine xlv 9 zeE rfl rfl (TL.bsN 17 [_] (zgb none) zbu zs0 ⟨rfl,trivial⟩ rfl (lit1 rfl) rfl rfl (fun bk17=>⟨trivial,?_⟩))
 refine TL.appS 11 17 (d2:=#[none]) rfl (rfl) rfl (fun _=>rfl) rfl rfl (row1 rfl) zog (by decide) zka (by simp; omega) rfl rfl (fun v18=>⟨trivial,?_⟩)
 refine TL.ownW 11 rfl (fun a6 g6 c6 hv6 _ _=>?_)
 cases hv6
 refine xN0 rfl (xf 15 zbe rfl (TL.st 9 #[_,_,_,_,_,_,_,_,_,_,_,_,_,_,_,_] _ rfl rfl rfl rfl rfl rfl zeE rfl rfl trivial (TL.done (TQ.inBlock (TQ.then (TC.bigP 12 14 (zau 130 157 189 3 l (bs++#[tb]) (ts0 l fn)) rfl rfl (by decide) (zgt (b:=tb) (ts:=ts0 l fn) (by omega)).1 (zgt (b:=tb) (ts:=ts0 l fn) (by omega)).2 (TC.region (TL.add (((i+1:Nat):Int)) rfl rfl (wrN (by omega)) rfl rfl ?_))))))))
 refine xmi rfl (TL.done (TQ.roundK ((i+1,_,_,bs++#[tb],gos++#[none])) ⟨⟨(show i+1≤nn by omega),(show (bs++#[tb]).size=i+1 by simp; omega),(show (gos++#[none]).size=i+1 by simp; omega),zrx hgz hgo⟩,(show nn - (i+1)<nn - i by omega)⟩ ⟨rfl,trivial⟩ ⟨rfl,rfl,rfl,rfl,trivial⟩ (kE5 rfl rfl rfl rfl rfl trivial) (kL7 rfl rfl rfl rfl rfl rfl rfl trivial)))
 refine dS (TC.condF rfl (TC.exit (TQ.thenExit (TQ.thenExit (TQ.blockHere (TQ.then (sA (xmp rfl ?_))))))))
 refine xap rfl (dR ?_)
 refine FQ.ret1 (v:=(.pointer (some ⟨_,_,none⟩))) (Bs:=[_,_,_,_,_,_]) [0,9,3,10,11,12] rfl rfl rfl ⟨rfl,rfl,rfl,rfl,rfl,rfl,trivial⟩ ?_
 obtain rfl:i=nn:=by omega
 obtain ⟨k1,k2,k3⟩:=zk8 hl hK l.V (Nat.le_refl _)
 exact ⟨_,_,_,_,_,_,_,_,par,rt,_,rfl,rfl,hbs,⟨hgz,hgo⟩,k1,k2,fun x hx hne=>(k3 x hx hne).trans (hcl x hx)⟩
theorem zmm {l:Lay} (hl:l.Ok) {tb ab mb:Nat} {t:TakeS} {σ:Array UInt64} (hk:TakeOk l σ t):FnD Tryz.prog 18 [.pointer (some ⟨tb,0,none⟩),.pointer (some ⟨ab,0,none⟩)] [zbR 130 157 189 3 tb l (t),zar ab mb 140 71 (σ)] (.bool (decide ((t.stp l σ).1.at_=4))) [zbR 130 157 189 3 tb l ((t.stp l σ).1),zar ab mb 140 71 ((t.stp l σ).2)]:=FnD.arenaA2 fun _=>⟨_,zkB hl hk⟩
theorem zi7 {l:Lay} (hl:l.Ok) {gb ab mb:Nat} {d:Array Int} {σ:Array UInt64} (hs:d.size≤2):FnD Tryz.prog 23 [.pointer (some ⟨gb,0,none⟩),.pointer (some ⟨ab,0,none⟩)] [zda 138 gb l (d),zar ab mb 140 71 (σ)] (.bool (decide ((d.extract 1 d.size).size=0))) [zda 138 gb l (d.extract 1 d.size),zar ab mb 140 71 (zfH l σ d)]:=FnD.arenaA2 fun _=>⟨_,zk6 hl hs⟩
theorem zfS  : FnD Tryz.prog 15 [] [] (.bool true) []:=by
 obtain ⟨h1,h2,h3,h4,h5,h6,h7⟩:=zpM
 have h8:(tkN 10).1.roots=(tkN 10).1.want:=if_pos h3
 have h9:((tkN 10).1.roots).size=2:=by rw [h8]; exact h7
 have h10:(tkN 10).1.want.size≤2∧(tkN 10).1.held.size≤2:=by rw [h7,h5]; decide
 refine Fn.enter (Tryz.func15) rfl rfl (fun w0 R=>?_)
 refine TC.seq (TC.nilA 0 (A:=fun _=>True) trivial (TC.region (xaf rfl (dA (TL.bld [.int .i64 0,.int .i64 0,.int .i64 0] [(.int _ _),(.int _ _),(.int _ _)] [_,_,_] znB zte ⟨rfl,rfl,rfl,trivial⟩ ⟨rfl,rfl⟩ rfl rfl (TL.alloc 1 (cs:=#[.int .i64 0,.int .i64 0,.int .i64 0]) znB rfl rfl rfl (fun _=>trivial) (fun bk1=>(TL.stW 1 3 [_,_,_] rfl rfl rfl rfl rfl rfl zaa rfl rfl trivial (dA ?_)))))))))
 refine xL3 1 zaa rfl rfl (TL.call [0] [0,2] (zlq (l:=l18) (a:=none) (dn:=0) (dc:=0) (Ad:=fun _=>True) (b:=0) (off:=0) (fd:=fun _=>0) zhB (fun h=>absurd h (Nat.lt_irrefl 0)) (fun _ _ i hi=>absurd hi (Nat.not_lt_zero i)) (fun i hi=>absurd hi (Nat.not_lt_zero i)) (by decide)) ⟨rfl,rfl,trivial⟩ ⟨rfl,trivial⟩ zqq rfl rfl rfl rfl ?_)
 rintro v Bs ⟨ab,mb,rfl,rfl⟩
 refine ⟨rfl,trivial,?_⟩
 refine xmu rfl (TL.ext (.pointer (some ⟨_,_,none⟩)) rfl rfl rfl rfl (xei rfl rfl (xap rfl (xai rfl (dB (xmi rfl (TL.neqF rfl rfl (by decide) rfl rfl (xmf rfl ?_))))))))
 refine xmp rfl (TL.nilP false rfl rfl zqf rfl rfl rfl (xpF rfl (dF rfl (xL3 1 zaa rfl rfl (TL.call [] [3] (zjz (l:=l18) zhB) ⟨rfl,rfl,rfl,rfl,trivial⟩ trivial znJ rfl rfl rfl rfl ?_)))))
 rintro x Bs ⟨tb,rfl,rfl⟩
 refine ⟨rfl,trivial,?_⟩
 refine xap rfl (dB (xmp rfl (TL.nilP false rfl rfl znF rfl rfl rfl (dF rfl (xai rfl (dS (TC.block (TC.loopK (X:=Nat) [1,2,4] [0,1] (fun k=>[(5,.int .i64 ((k:Nat):Int))]) (fun k=>[(3,zbR 130 157 189 3 tb l18 ((tkN k).1)),(2,zar ab mb 140 71 ((tkN k).2))]) (fun k=>k≤9) (fun k=>9 - k) (0) (Nat.zero_le _) ⟨rfl,trivial⟩ ⟨rfl,rfl,trivial⟩ (fun k hI=>?_)))))))))
 refine TC.sub (env':=[(5,_),(1,_),(2,_),(4,_)]) (L':=[(3,_),(2,_),(0,_),(1,_)]) ⟨rfl,rfl,rfl,rfl,trivial⟩ ⟨rfl,rfl,rfl,rfl,trivial⟩ (sB (xmp rfl (xmp rfl (TL.callD [3,2] [3,2] (zmm zhB (zqQ (h1 k (by omega)))) ⟨rfl,rfl,trivial⟩ ⟨rfl,rfl,trivial⟩ zqu rfl rfl rfl rfl rfl trivial (TL.cases rfl (fun q1=>?_) (fun q1=>?_))))))
 refine xnt rfl (dE rfl (TC.seq ?_))
 obtain rfl:k=9:=Classical.byContradiction fun hne=>h2 k (by omega) (of_decide_eq_true (by assumption))
 rw [show (tkN 9).1.stp l18 (tkN 9).2=tkN 10 from rfl]
 refine TC.region (xmp rfl (xL3 1 zaa rfl rfl (TL.callD [] [] (zaE (l:=l18) zhB) ⟨rfl,rfl,rfl,trivial⟩ trivial zbm rfl rfl rfl rfl rfl trivial (TL.callD [2] [2] ziD ⟨rfl,rfl,trivial⟩ ⟨rfl,trivial⟩ zje rfl rfl rfl rfl rfl trivial (xmu rfl (xei rfl rfl (xei rfl rfl (xai rfl ?_))))))))
 refine xai rfl (dS (TC.draw [(0,true),(1,true),(2,false),(3,false),(4,true)] [1] fc_m (by kernel_rfl) (xL3 1 zaa rfl rfl (xmp rfl (TL.call [3] [3,4] (zeY h10) ⟨rfl,trivial⟩ ⟨rfl,trivial⟩ zlg rfl rfl rfl rfl ?_)))))
 rintro x Bs ⟨_,rfl⟩
 refine ⟨rfl,(kL1 rfl trivial),?_⟩
 refine TL.rowS 4 rfl (fun a7 b7 o7 c7 hv7 hc7 ha7=>⟨(kL1 rfl trivial),?_⟩)
 cases hv7
 refine TL.call [4] [4,5] (znl (l:=l18) (d:=(tkN 10).1.roots) ha7 (by rw [h9]; decide)) ⟨rfl,rfl,trivial⟩ ⟨rfl,trivial⟩ zqt rfl rfl rfl rfl ?_
 rintro x Bs ⟨gb,rfl,rfl⟩
 refine ⟨rfl,(kL1 rfl trivial),?_⟩
 refine xap rfl (dA (xmi rfl (TL.eqlT rfl rfl (by decide) rfl rfl (xmt rfl (xmi rfl (TL.eqlT rfl rfl h4 rfl rfl (xpT rfl (xmt rfl ?_))))))))
 refine xmp rfl (TL.call [3] [3,6] (zkD h10) ⟨rfl,trivial⟩ ⟨rfl,trivial⟩ zqn rfl rfl rfl rfl ?_)
 rintro x Bs ⟨_,rfl⟩
 refine ⟨rfl,trivial,?_⟩
 refine TL.rowS 6 rfl (fun a6 b6 o6 c6 hv6 hc6 ha6=>⟨trivial,?_⟩)
 cases hv6
 refine xz zag rfl (TL.eqlT rfl rfl (by rw [show (tkN 10).1.held.size=2 from h5]; rfl) rfl rfl (xpT rfl (xmt rfl (xmp rfl (TL.callD [3] [3] zml ⟨rfl,trivial⟩ ⟨rfl,trivial⟩ ztr rfl rfl rfl rfl rfl trivial (TL.eqlT rfl rfl h6 rfl rfl (xpT rfl (xmt rfl ?_))))))))
 refine xmp rfl (TL.nilP true rfl rfl zjd rfl rfl rfl (xpT rfl (xmt rfl (xmp rfl (xmp rfl (TL.callD [5,2] [5,2] (zi7 zhB (by rw [h9]; decide)) ⟨rfl,rfl,trivial⟩ ⟨rfl,rfl,trivial⟩ znL rfl rfl rfl rfl rfl trivial ?_))))))
 rw [decide_eq_false (show ¬(((tkN 10).1.roots).extract 1 ((tkN 10).1.roots).size).size=0 by simp [h9])]
 refine xnf rfl (xpT rfl (xmt rfl (xmp rfl (xmp rfl (TL.callD [5,2] [5,2] (zi7 zhB (by simp [h9])) ⟨rfl,rfl,trivial⟩ ⟨rfl,rfl,trivial⟩ znL rfl rfl rfl rfl rfl trivial ?_)))))
 rw [decide_eq_true (show ((((tkN 10).1.roots).extract 1 ((tkN 10).1.roots).size).extract 1 (((tkN 10).1.roots).extract 1 ((tkN 10).1.roots).size).size).size=0 by simp [h9])]
 refine xpT rfl (xmt rfl (xmp rfl (TL.callD [5] [5] zi8 ⟨rfl,trivial⟩ ⟨rfl,trivial⟩ zhN rfl rfl rfl rfl rfl trivial ?_)))
 rw [decide_eq_true (show ((((tkN 10).1.roots).extract 1 ((tkN 10).1.roots).size).extract 1 (((tkN 10).1.roots).extract 1 ((tkN 10).1.roots).size).size).size=0 by simp [h9])]
 refine xpT rfl (xat rfl (dR ?_))
 refine FQ.ret1 (v:=(.bool true)) (Bs:=[]) [] rfl rfl rfl trivial ?_
 exact ⟨rfl,rfl⟩
 refine xnf rfl (TL.done (TQ.then (TC.condT rfl (TC.skip (TQ.then (TC.block (sA (xmi rfl ?_))))))))
 refine TL.add (((k+1:Nat):Int)) rfl rfl (wrN (by omega)) rfl rfl (xai rfl (dA (xmi rfl (TL.gtrF rfl rfl (by omega) rfl rfl (TL.done (TQ.then (TC.condF rfl (TC.skip ?_))))))))
 refine TQ.inBlock (TQ.roundK (k+1) ⟨(by have:k≠9:=fun e=>(by subst e; exact (of_decide_eq_false (by assumption)) h3); omega),(by have:k≠9:=fun e=>(by subst e; exact (of_decide_eq_false (by assumption)) h3); omega)⟩ ⟨rfl,trivial⟩ ⟨rfl,rfl,trivial⟩ (kE3 rfl rfl rfl trivial) (kL2 rfl rfl trivial))
end Go.Proofs.YtjnpjkfliochbaaGreat
