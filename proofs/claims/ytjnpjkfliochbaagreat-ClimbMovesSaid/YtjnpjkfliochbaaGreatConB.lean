import Derived.Test.YtjnpjkfliochbaaGreatConA
set_option linter.unusedVariables false
set_option linter.unusedSimpArgs false
set_option maxRecDepth 20000
namespace Go.Proofs.YtjnpjkfliochbaaGreat
open Go.Eng Go.Tm
theorem zfL {S:Type} [MemLike S] {mt:TypeId} {mv:Value} {A:S→Assn} (hM:MemI Tryz.prog mt mv A) {l:Lay} (hl:l.Ok) {p:Pen} {σ:S} {x y:Int} (hy:0≤y∧y<18446744073709551616)  : FnD Tryz.prog 94 [zaW l mt mv p,.int .i64 x,.int .u64 y] [A σ] (.tuple #[]) [A (zdQ l p σ x y)]:=by
 refine Fn.enter (Tryz.func94) rfl rfl (fun w0 R=>?_)
 refine sA (xB 1 rfl (fun bk1=>(dS (TC.draw [(0,true),(1,true),(2,true),(3,true),(4,true),(6,true),(7,true),(8,true),(5,false),(9,false)] [1] fc_m (by kernel_rfl) (xf 3 zaS rfl (xlc 1 zbh rfl rfl (xf 0 zav rfl (xL3 1 zaa rfl rfl (xmi rfl ?_)))))))))
 refine xmi rfl (TL.ncI rfl rfl rfl (xmc rfl (TL.callD [] [] (zaR hl) ⟨rfl,rfl,rfl,trivial⟩ trivial zbN rfl rfl rfl rfl rfl (kL1 rfl trivial) (TL.mstore 0 hM rfl rfl rfl (by first | exact hy | decide) rfl rfl rfl (kL1 rfl trivial) (dA (xL6 1 zab rfl rfl (xmi rfl (TL.callD [0] [0] (zeY hM hl) ⟨rfl,rfl,trivial⟩ ⟨rfl,trivial⟩ zgt rfl rfl rfl rfl rfl trivial ?_))))))))
 refine dS (TC.draw [(0,true),(1,true),(2,true),(3,true),(4,true),(5,true),(6,true),(7,false),(8,false)] [1] fc_m (by kernel_rfl) (xf 4 zg3 rfl (xL2 1 zbA rfl rfl (xf 3 zaS rfl (xlc 1 zbh rfl rfl (xf 0 zav rfl (xL3 1 zaa rfl rfl (xmi rfl ?_))))))))
 refine TL.callD [] [] (zaR hl) ⟨rfl,rfl,rfl,trivial⟩ trivial zbN rfl rfl rfl rfl rfl (kL1 rfl trivial) (TL.callD [0] [0] (zko hM) ⟨rfl,rfl,rfl,trivial⟩ ⟨rfl,trivial⟩ zoV rfl rfl rfl rfl rfl (kL1 rfl trivial) (dA (xai rfl (dB (xf 0 zav rfl (xL3 1 zaa rfl rfl (xmi rfl (TL.callD [] [] (zel hl) ⟨rfl,rfl,trivial⟩ trivial zgm rfl rfl rfl rfl rfl trivial ?_))))))))
 refine xmu rfl (TL.ext (.agg _) rfl rfl rfl rfl (TL.ext (.bool _) rfl rfl rfl rfl (TL.alloc 2 (cs:=#[.bool false,.int .i64 0,.int .i64 0,.int .i64 0,.int .i64 0]) zdI rfl rfl rfl (fun _=>trivial) (fun bk2=>(TL.stW 2 5 [_,_,_,_,_] rfl rfl rfl rfl rfl rfl zby rfl rfl trivial (xab rfl (dA (xf 0 zgX rfl (xlb 2 zbS rfl rfl ?_)))))))))
 refine TL.not _ _ rfl rfl rfl rfl (xmb rfl (TL.cases rfl (fun q1=>?_) (fun q1=>?_)))
 refine xf 1 zdY rfl (xli 2 zaf rfl rfl (TL.eql rfl rfl rfl rfl (fun q2=>?_) (fun q2=>?_)))
 refine xpT rfl (TL.done (TQ.then (TC.condT rfl (TC.region (xai rfl (TL.done (TQ.then (TC.draw [(0,true),(1,true),(2,true),(3,true),(4,true),(6,true),(7,true),(8,true),(5,false),(9,false)] [1] fc_m (by kernel_rfl) ?_))))))))
 refine xf 3 zaS rfl (xlc 1 zbh rfl rfl (xf 0 zav rfl (xL3 1 zaa rfl rfl (xmi rfl (xmi rfl (TL.ncI rfl rfl rfl (xmc rfl (TL.callD [] [] (zaR hl) ⟨rfl,rfl,rfl,trivial⟩ trivial zbN rfl rfl rfl rfl rfl (kL1 rfl trivial) ?_))))))))
 refine TL.mstore 0 hM rfl rfl rfl (by first | exact hy | decide) rfl rfl rfl (kL1 rfl trivial) (TL.done ?_)
 refine FQ.end0 (Bs:=[A _]) [0] rfl rfl ⟨rfl,trivial⟩ ?_
 exact ⟨rfl,by unfold zdQ zfa; rw [if_pos ⟨by simpa using q1,q2⟩]⟩
 refine xpG rfl (TL.done (TQ.then (TC.condF rfl (TC.skip (TQ.then (TC.draw [(0,true),(1,true),(2,true),(3,true),(4,true),(6,true),(7,true),(8,true),(5,false),(9,false)] [1] fc_m (by kernel_rfl) (xf 3 zaS rfl (xlc 1 zbh rfl rfl ?_))))))))
 refine xf 0 zav rfl (xL3 1 zaa rfl rfl (xmi rfl (xmi rfl (TL.ncI rfl rfl rfl (xmc rfl (TL.callD [] [] (zaR hl) ⟨rfl,rfl,rfl,trivial⟩ trivial zbN rfl rfl rfl rfl rfl (kL1 rfl trivial) (TL.mstore 0 hM rfl rfl rfl (by first | exact hy | decide) rfl rfl rfl (kL1 rfl trivial) (TL.done ?_))))))))
 refine FQ.end0 (Bs:=[A _]) [0] rfl rfl ⟨rfl,trivial⟩ ?_
 exact ⟨rfl,by unfold zdQ zfa; rw [if_neg (fun h=>q2 h.2)]⟩
 refine xo rfl (xo rfl (xo rfl (xpF rfl (TL.done (TQ.then (TC.condF rfl (TC.skip (TQ.then ?_))))))))
 refine TC.draw [(0,true),(1,true),(2,true),(3,true),(4,true),(6,true),(7,true),(8,true),(5,false),(9,false)] [1] fc_m (by kernel_rfl) (xf 3 zaS rfl (xlc 1 zbh rfl rfl (xf 0 zav rfl (xL3 1 zaa rfl rfl (xmi rfl (xmi rfl (TL.ncI rfl rfl rfl (xmc rfl ?_))))))))
 refine TL.callD [] [] (zaR hl) ⟨rfl,rfl,rfl,trivial⟩ trivial zbN rfl rfl rfl rfl rfl (kL1 rfl trivial) (TL.mstore 0 hM rfl rfl rfl (by first | exact hy | decide) rfl rfl rfl (kL1 rfl trivial) (TL.done ?_))
 refine FQ.end0 (Bs:=[A _]) [0] rfl rfl ⟨rfl,trivial⟩ ?_
 exact ⟨rfl,by unfold zdQ zfa; rw [if_neg (fun h=>by rw [h.1] at q1; cases q1)]⟩
theorem zkq {l:Lay} (hl:l.Ok) {a:Option Addr} {b off dn dc:Nat} {Ad:Assn} {fd:Nat→Int} (ha:0<dn→a=some ⟨b,off,none⟩) (hAd:zbj Ad encU 1 b off dn fd) (hfd:∀ i,i<dn→0≤fd i∧fd i<18446744073709551616) (hdn:dn≤256)  : Go.Eng.Fn Tryz.prog 35 [layV l,.slice a dn dc] [Ad] (fun v Bs=>∃ ab mb,v=.tuple #[.pointer (some ⟨ab,0,none⟩),.int .i64 0]∧Bs=[Ad,zaF ab mb 140 71 (ziG l dn fd (Array.replicate l.cells.toNat 0))]):=by
 obtain ⟨N,hN⟩:∃ N:Nat,l.cells=(N:Int):=⟨l.cells.toNat,by have:=zdP hl; have:=zaO hl; have:=zbR hl; have:=zbE hl; omega⟩
 have hN2:l.cells.toNat=N:=by omega
 have hcb:=zdP hl
 have hnb:=zaO hl
 refine Fn.enter (Tryz.func35) rfl rfl (fun w0 R=>?_)
 refine sA (xB 1 rfl (fun bk1=>(TL.asg (.pointer none) rfl rfl rfl (xai rfl (dS (TC.block (sA (xL3 1 zaa rfl rfl (TL.callD [] [] (zlW hl) ⟨rfl,trivial⟩ trivial zrh rfl rfl rfl rfl rfl trivial ?_)))))))))
 refine xnt rfl (xaf rfl (TL.done (TQ.then (TC.condF rfl (sA (xms rfl (xz zaN rfl (TL.gtrF rfl rfl (by omega) rfl rfl ?_))))))))
 refine xaf rfl (TL.done (TQ.then (TC.condF rfl (TC.skip (TQ.inBlock (TQ.then (sA (xL3 1 zaa rfl rfl ?_))))))))
 refine TL.callD [] [] (zon hl) ⟨rfl,trivial⟩ trivial zrp rfl rfl rfl rfl rfl trivial ?_
 rw [hN]
 refine TL.call [] [2] (zqw (by omega)) ⟨rfl,trivial⟩ trivial zrg rfl rfl rfl rfl ?_
 rintro v Bs ⟨ab,mb,rfl,rfl⟩
 refine ⟨rfl,trivial,?_⟩
 rw [←hN2]
 refine TL.conseq 2 (B:=zaF ab mb 140 71 (Array.replicate l.cells.toNat 0)) rfl (fun h hh=>zor hh) trivial (xmu rfl (TL.ext (.pointer (some ⟨_,_,none⟩)) rfl rfl rfl rfl (xei rfl rfl (xap rfl (xai rfl (dB (xmi rfl (TL.neqF rfl rfl (by omega) rfl rfl ?_))))))))
 refine TL.done (TQ.then (TC.condF rfl (TC.skip (TQ.then (TC.seq (TC.draw [(0,true),(3,true),(1,false),(2,true),(4,false)] [1] fc_m (by kernel_rfl) (xmp rfl (xL3 1 zaa rfl rfl ?_))))))))
 refine TL.callD [] [] zcS ⟨rfl,trivial⟩ trivial zfx rfl rfl rfl rfl rfl (kL1 rfl trivial) (TL.miN (v:=(.agg _)) rfl zdL rfl rfl (TL.callD [2] [2] (znJ zbl (zbi) hl) ⟨rfl,rfl,trivial⟩ ⟨rfl,trivial⟩ zrf rfl rfl rfl rfl rfl (kL1 rfl trivial) (dS (TC.drawT (.br [(0,true),(1,true),(4,true)] 2 6 (.fin [(3,true),(5,true),(6,false),(7,false)]) (.fin [(2,false),(3,true),(5,true),(7,false)])) [1] fc_m (by kernel_rfl) (TT.br (xL3 1 zaa rfl rfl (xmp rfl (TL.bld [.int .i64 0,.int .i64 0] [(.int _ _)] [_,_] zj5 zmq ⟨rfl,trivial⟩ ⟨rfl,rfl⟩ rfl rfl (TL.both ?_ ?_)))))))))
 refine TL.callD [] [] zcS ⟨rfl,trivial⟩ trivial zfx rfl rfl rfl rfl rfl (kL1 rfl trivial) (TL.tree (TT.fin (TL.miN (v:=(.agg _)) rfl zdL rfl rfl (TL.bld [.int .i64 0,.int .i64 0,.int .i64 0,.nilIface,.int .i64 0,.int .i64 0] [(.agg _),(.iface _ _),(.agg _)] [_,_,_,_,_,_] ziv zmp ⟨rfl,rfl,rfl,trivial⟩ ⟨rfl,rfl⟩ rfl rfl (TL.alloc 3 (cs:=#[.int .i64 0,.int .i64 0,.int .i64 0,.nilIface,.int .i64 0,.int .i64 0]) ziv rfl rfl rfl (fun _=>(kL1 rfl trivial)) (fun bk3=>(TL.stW 3 6 [_,_,_,_,_,_] rfl rfl rfl rfl rfl rfl zab rfl rfl (kL1 rfl trivial) (dB (xai rfl (dK ?_))))))))))
 refine TC.loopK (X:=Nat) [1,2,4,5,6,8] [0,1,3] (fun x=>[(9,.int .i64 ((x+1:Nat):Int))]) (fun x=>[(2,zaF ab mb 140 71 (zcn l dn fd x (zfC l (Array.replicate l.cells.toNat 0))))]) (fun x=>(x:Int)≤l.nodes) (fun x=>l.nodes.toNat - x) (0) (by omega) ⟨rfl,trivial⟩ ⟨rfl,trivial⟩ (fun x hI=>(TC.sub (env':=[(9,_),(1,_),(2,_),(4,_),(5,_),(6,_),(8,_)]) (L':=[(2,_),(0,_),(1,_),(3,_)]) ⟨rfl,rfl,rfl,rfl,rfl,rfl,rfl,trivial⟩ ⟨rfl,rfl,rfl,rfl,trivial⟩ (sB (xmi rfl (xL3 1 zaa rfl rfl (TL.callD [] [] (zcA hl) ⟨rfl,trivial⟩ trivial zeV rfl rfl rfl rfl rfl trivial (TL.leq rfl rfl rfl rfl (fun q1=>?_) (fun q1=>?_))))))))
 refine TL.done (TQ.then (TC.condT rfl (TC.skip (TQ.then (TC.seq (TC.block (sA (xai rfl ?_))))))))
 refine dB (xms rfl (xz zaN rfl (TL.gtr rfl rfl rfl rfl (fun q2=>?_) (fun q2=>?_))))
 refine TL.done (TQ.then (TC.condT rfl (TC.region (xms rfl (xmi rfl (xms rfl (xz zaN rfl (TL.rem ((((x+1) % dn:Nat):Int)) rfl rfl (by omega) (by rw [Int.tmod_eq_emod_of_nonneg (by omega)]; exact (Int.natCast_emod (x+1) dn).symm) rfl rfl ?_))))))))
 refine TL.iaO rfl ha rfl zaN (Nat.mod_lt _ (by omega)) rfl rfl (TL.ldRS 0 (.int _ _) rfl rfl hAd (Nat.mod_lt _ (by omega)) (rfl) zj7 rfl rfl (xai rfl (dG (xL6 3 zab rfl rfl (xmi rfl (xmi rfl (TL.callD [2] [2] (zfL (p:=P1) zbl hl (by first | exact hfd _ (Nat.mod_lt _ (by omega)) | decide)) ⟨rfl,rfl,rfl,trivial⟩ ⟨rfl,trivial⟩ zj9 rfl rfl rfl rfl rfl trivial (dI ?_))))))))
 refine xmi rfl (TL.add (((x+2:Nat):Int)) rfl rfl (wrN (by omega)) rfl rfl (xai rfl (TL.done (TQ.roundK (x+1) ⟨(by omega),(by omega)⟩ ⟨rfl,trivial⟩ ⟨congrArg (fun z=>some (zaF ab mb 140 71 (z))) (zg6 (by omega)),trivial⟩ (kE6 rfl rfl rfl rfl rfl rfl trivial) (kL3 rfl rfl rfl trivial)))))
 refine TL.done (TQ.then (TC.condF rfl (TC.skip (TQ.then (TC.region (xL6 3 zab rfl rfl (xmi rfl (xmi rfl ?_))))))))
 refine TL.callD [2] [2] (zfL (p:=P1) zbl hl (by first | exact hfd _ (Nat.mod_lt _ (by omega)) | decide)) ⟨rfl,rfl,rfl,trivial⟩ ⟨rfl,trivial⟩ zj9 rfl rfl rfl rfl rfl trivial (dI (xmi rfl (TL.add (((x+2:Nat):Int)) rfl rfl (wrN (by omega)) rfl rfl (xai rfl (TL.done (TQ.roundK (x+1) ⟨(by omega),(by omega)⟩ ⟨rfl,trivial⟩ ⟨congrArg (fun z=>some (zaF ab mb 140 71 (z))) (zgx (by omega)),trivial⟩ (kE6 rfl rfl rfl rfl rfl rfl trivial) (kL3 rfl rfl rfl trivial)))))))
 refine dE rfl (sA (xmp rfl (xap rfl (xai rfl (dR ?_)))))
 refine FQ.ret2 (v:=(.pointer (some ⟨_,_,none⟩))) (x:=(.int _ _)) (Bs:=[Ad,_]) [0,2] rfl rfl rfl rfl ⟨rfl,rfl,trivial⟩ ?_
 obtain rfl:x=l.nodes.toNat:=by omega
 exact ⟨_,_,rfl,rfl⟩
 refine TL.alloc 4 (cs:=#[.int .i64 0,.int .i64 0,.int .i64 0,.nilIface,.int .i64 0,.int .i64 0]) ziv rfl rfl rfl (fun _=>(kL1 rfl trivial)) (fun bk4=>(TL.tree (TT.fin (TL.callD [] [] zcS ⟨rfl,trivial⟩ trivial zfx rfl rfl rfl rfl rfl (kL1 rfl trivial) (TL.miN (v:=(.agg _)) rfl zdL rfl rfl (TL.bld [.int .i64 0,.int .i64 0,.int .i64 0,.nilIface,.int .i64 0,.int .i64 0] [(.agg _),(.iface _ _),(.agg _)] [_,_,_,_,_,_] ziv zmp ⟨rfl,rfl,rfl,trivial⟩ ⟨rfl,rfl⟩ rfl rfl (TL.stW 4 6 [_,_,_,_,_,_] rfl rfl rfl rfl rfl rfl zab rfl rfl (kL1 rfl trivial) (dB (xai rfl (dK ?_))))))))))
 refine TC.loopK (X:=Nat) [1,2,4,5,6,8] [0,1,4] (fun x=>[(9,.int .i64 ((x+1:Nat):Int))]) (fun x=>[(2,zaF ab mb 140 71 (zcn l dn fd x (zfC l (Array.replicate l.cells.toNat 0))))]) (fun x=>(x:Int)≤l.nodes) (fun x=>l.nodes.toNat - x) (0) (by omega) ⟨rfl,trivial⟩ ⟨rfl,trivial⟩ (fun x hI=>(TC.sub (env':=[(9,_),(1,_),(2,_),(4,_),(5,_),(6,_),(8,_)]) (L':=[(2,_),(0,_),(1,_),(4,_)]) ⟨rfl,rfl,rfl,rfl,rfl,rfl,rfl,trivial⟩ ⟨rfl,rfl,rfl,rfl,trivial⟩ (sB (xmi rfl (xL3 1 zaa rfl rfl (TL.callD [] [] (zcA hl) ⟨rfl,trivial⟩ trivial zeV rfl rfl rfl rfl rfl trivial (TL.leq rfl rfl rfl rfl (fun q1=>?_) (fun q1=>?_))))))))
 refine TL.done (TQ.then (TC.condT rfl (TC.skip (TQ.then (TC.seq (TC.block (sA (xai rfl ?_))))))))
 refine dB (xms rfl (xz zaN rfl (TL.gtr rfl rfl rfl rfl (fun q2=>?_) (fun q2=>?_))))
 refine TL.done (TQ.then (TC.condT rfl (TC.region (xms rfl (xmi rfl (xms rfl (xz zaN rfl (TL.rem ((((x+1) % dn:Nat):Int)) rfl rfl (by omega) (by rw [Int.tmod_eq_emod_of_nonneg (by omega)]; exact (Int.natCast_emod (x+1) dn).symm) rfl rfl ?_))))))))
 refine TL.iaO rfl ha rfl zaN (Nat.mod_lt _ (by omega)) rfl rfl (TL.ldRS 0 (.int _ _) rfl rfl hAd (Nat.mod_lt _ (by omega)) (rfl) zj7 rfl rfl (xai rfl (dG (xL6 4 zab rfl rfl (xmi rfl (xmi rfl (TL.callD [2] [2] (zfL (p:=P1) zbl hl (by first | exact hfd _ (Nat.mod_lt _ (by omega)) | decide)) ⟨rfl,rfl,rfl,trivial⟩ ⟨rfl,trivial⟩ zj9 rfl rfl rfl rfl rfl trivial (dI ?_))))))))
 refine xmi rfl (TL.add (((x+2:Nat):Int)) rfl rfl (wrN (by omega)) rfl rfl (xai rfl (TL.done (TQ.roundK (x+1) ⟨(by omega),(by omega)⟩ ⟨rfl,trivial⟩ ⟨congrArg (fun z=>some (zaF ab mb 140 71 (z))) (zg6 (by omega)),trivial⟩ (kE6 rfl rfl rfl rfl rfl rfl trivial) (kL3 rfl rfl rfl trivial)))))
 refine TL.done (TQ.then (TC.condF rfl (TC.skip (TQ.then (TC.region (xL6 4 zab rfl rfl (xmi rfl (xmi rfl ?_))))))))
 refine TL.callD [2] [2] (zfL (p:=P1) zbl hl (by first | exact hfd _ (Nat.mod_lt _ (by omega)) | decide)) ⟨rfl,rfl,rfl,trivial⟩ ⟨rfl,trivial⟩ zj9 rfl rfl rfl rfl rfl trivial (dI (xmi rfl (TL.add (((x+2:Nat):Int)) rfl rfl (wrN (by omega)) rfl rfl (xai rfl (TL.done (TQ.roundK (x+1) ⟨(by omega),(by omega)⟩ ⟨rfl,trivial⟩ ⟨congrArg (fun z=>some (zaF ab mb 140 71 (z))) (zgx (by omega)),trivial⟩ (kE6 rfl rfl rfl rfl rfl rfl trivial) (kL3 rfl rfl rfl trivial)))))))
 refine dE rfl (sA (xmp rfl (xap rfl (xai rfl (dR ?_)))))
 refine FQ.ret2 (v:=(.pointer (some ⟨_,_,none⟩))) (x:=(.int _ _)) (Bs:=[Ad,_]) [0,2] rfl rfl rfl rfl ⟨rfl,rfl,trivial⟩ ?_
 obtain rfl:x=l.nodes.toNat:=by omega
 exact ⟨_,_,rfl,rfl⟩
theorem znd {l:Lay} (hl:l.Ok) {v:Int}:Go.Eng.Fn Tryz.prog 39 [layV l,.int .i64 v] [] (fun x Bs=>∃ cb,x=.pointer (some ⟨cb,0,none⟩)∧Bs=[zaz 157 189 cb l (zaT l v)]):=by
 refine Fn.enter (Tryz.func39) rfl rfl (fun w0 R=>?_)
 refine sA (xB 0 rfl (fun bk0=>(TL.asg (.pointer none) rfl rfl rfl (dA (xL3 0 zaa rfl rfl (xmi rfl (TL.callD [] [] (zcD hl) ⟨rfl,rfl,rfl,trivial⟩ trivial zgl rfl rfl rfl rfl rfl trivial (xai rfl (dS ?_)))))))))
 refine TC.draw [(0,true),(1,true),(2,true),(3,true),(4,true),(5,false),(6,false),(7,true),(8,false),(9,true)] [0] fc_m (by kernel_rfl) (xL3 0 zaa rfl rfl (xmi rfl (xL3 0 zaa rfl rfl (xL3 0 zaa rfl rfl (xmi rfl (TL.callD [] [] (zaR hl) ⟨rfl,rfl,rfl,trivial⟩ trivial zbN rfl rfl rfl rfl rfl (kL1 rfl trivial) (TL.call [] [1] zdT ⟨rfl,rfl,trivial⟩ trivial zj8 rfl rfl rfl rfl ?_)))))))
 rintro v Bs ⟨lb,rfl,rfl⟩
 refine ⟨rfl,(kL1 rfl trivial),?_⟩
 refine TL.bld [.int .i64 0,.int .i64 0,.int .i64 0,.int .i64 0,.pointer none,.bool false,.bool false,.int .i64 0,.int .i64 0] [(.agg _),(.int _ _),(.pointer (some ⟨_,_,none⟩))] [_,_,_,_,_,_,_,_,_] zpR zpW ⟨rfl,rfl,rfl,trivial⟩ ⟨rfl,rfl⟩ rfl rfl (TL.boxA 2 rfl rfl rfl (fun _=>(kL1 rfl trivial)) (fun bk2=>(xap rfl (dR (TQ.close 2 1 (zaz 157 189 _ l (zaT l v)) (by decide) rfl rfl (fun _ _ _ s1 s2 hd h1 h2=>zap s1 s2 hd h1 h2) ?_)))))
 refine FQ.ret1 (v:=(.pointer (some ⟨_,_,none⟩))) (Bs:=[_]) [2] rfl rfl rfl ⟨rfl,trivial⟩ ?_
 exact ⟨_,rfl,rfl⟩
theorem zkp {l:Lay} {cb:Nat} {c:ClimbS}:FnD Tryz.prog 46 [.pointer (some ⟨cb,0,none⟩)] [zaz 157 189 cb l (c)] (.bool c.done) [zaz 157 189 cb l (c)]:=by
 refine Fn.enter (Tryz.func46) rfl rfl (fun w0 R=>?_)
 refine sA (xaf rfl (dS (TC.openE 0 rfl (fun lb=>(TC.openS 0 1 rfl (by decide) (TC.region (xmp rfl (xN0 rfl (xf 6 zbv rfl ?_)))))))))
 refine xlb 0 zbS rfl rfl (xab rfl (dR (TQ.close 0 1 (zaz 157 189 cb l (c)) (by decide) rfl rfl (fun _ _ _ s1 s2 hd h1 h2=>zap s1 s2 hd h1 h2) ?_)))
 refine FQ.ret1 (v:=(.bool _)) (Bs:=[_]) [0] rfl rfl rfl ⟨rfl,trivial⟩ ?_
 exact ⟨rfl,rfl⟩
theorem zet {l:Lay} {cb:Nat} {c:ClimbS}:FnD Tryz.prog 50 [.pointer (some ⟨cb,0,none⟩)] [zaz 157 189 cb l (c)] (.int .i64 c.version) [zaz 157 189 cb l (c)]:=by
 refine Fn.enter (Tryz.func50) rfl rfl (fun w0 R=>?_)
 refine sA (xai rfl (dS (TC.openE 0 rfl (fun lb=>(TC.openS 0 1 rfl (by decide) (TC.region (xmp rfl (xN0 rfl (xf 7 zgg rfl ?_)))))))))
 refine xli 0 zaf rfl rfl (xai rfl (dR (TQ.close 0 1 (zaz 157 189 cb l (c)) (by decide) rfl rfl (fun _ _ _ s1 s2 hd h1 h2=>zap s1 s2 hd h1 h2) ?_)))
 refine FQ.ret1 (v:=(.int _ _)) (Bs:=[_]) [0] rfl rfl rfl ⟨rfl,trivial⟩ ?_
 exact ⟨rfl,rfl⟩
theorem zm9 {l:Lay} {cb:Nat} {c:ClimbS}:FnD Tryz.prog 52 [.pointer (some ⟨cb,0,none⟩)] [zaz 157 189 cb l (c)] (.int .i64 c.step) [zaz 157 189 cb l (c)]:=by
 refine Fn.enter (Tryz.func52) rfl rfl (fun w0 R=>?_)
 refine sA (xai rfl (dS (TC.openE 0 rfl (fun lb=>(TC.openS 0 1 rfl (by decide) (TC.region (xmp rfl (xN0 rfl (xf 8 zeo rfl ?_)))))))))
 refine xli 0 zaf rfl rfl (xai rfl (dR (TQ.close 0 1 (zaz 157 189 cb l (c)) (by decide) rfl rfl (fun _ _ _ s1 s2 hd h1 h2=>zap s1 s2 hd h1 h2) ?_)))
 refine FQ.ret1 (v:=(.int _ _)) (Bs:=[_]) [0] rfl rfl rfl ⟨rfl,trivial⟩ ?_
 exact ⟨rfl,rfl⟩
theorem zki {l:Lay} {cb:Nat} {c:ClimbS}:FnD Tryz.prog 41 [.pointer (some ⟨cb,0,none⟩)] [zaz 157 189 cb l (c)] (.int .i64 c.root) [zaz 157 189 cb l (c)]:=by
 refine Fn.enter (Tryz.func41) rfl rfl (fun w0 R=>?_)
 refine sA (xai rfl (dS (TC.seq (TC.openE 0 rfl (fun lb=>(TC.openS 0 1 rfl (by decide) (TC.region (xmp rfl (xN0 rfl ?_)))))))))
 refine xf 6 zbv rfl (xlb 0 zbS rfl rfl (TL.not _ _ rfl rfl rfl rfl (TL.done (TQ.then (TC.cond rfl (fun q1=>?_) (fun q1=>?_))))))
 refine sA (xai rfl (dRR (TQ.close 0 1 (zaz 157 189 cb l (c)) (by decide) rfl rfl (fun _ _ _ s1 s2 hd h1 h2=>zap s1 s2 hd h1 h2) ?_)))
 refine FQ.ret1 (v:=(.int _ _)) (Bs:=[_]) [0] rfl rfl rfl ⟨rfl,trivial⟩ ?_
 have q:c.done=false:=by simpa using q1
 exact ⟨iE (by unfold ClimbS.root; rw [q]; rfl),rfl⟩
 refine TC.skip (TQ.then (sA (xmp rfl (xN0 rfl (xf 3 zdr rfl (xli 0 zaf rfl rfl (xai rfl (dR ?_))))))))
 refine TQ.close 0 1 (zaz 157 189 cb l (c)) (by decide) rfl rfl (fun _ _ _ s1 s2 hd h1 h2=>zap s1 s2 hd h1 h2) ?_
 refine FQ.ret1 (v:=(.int _ _)) (Bs:=[_]) [0] rfl rfl rfl ⟨rfl,trivial⟩ ?_
 have q:c.done=true:=by simpa using q1
 exact ⟨iE (by unfold ClimbS.root; rw [q]; rfl),rfl⟩
theorem zhW {l:Lay} (hl:l.Ok) {cb ab mb:Nat} {c:ClimbS} {σ:Array UInt64} {n:Cnt}:FnD Tryz.prog 40 [.pointer (some ⟨cb,0,none⟩),.pointer (some ⟨ab,0,none⟩)] [zaz 157 189 cb l (c),arenaC ab mb 140 71 (σ) (n)] (.bool (c.stp l σ).done) [zaz 157 189 cb l (c.stp l σ),arenaC ab mb 140 71 (σ) (c.cnt l σ n)]:=by
 refine Fn.enter (Tryz.func40) rfl rfl (fun w0 R=>?_)
 refine sA (xaf rfl (dS (TC.seq (TC.openE 0 rfl (fun lb=>(TC.openS 0 2 rfl (by decide) (TC.region (xmp rfl (xN0 rfl ?_)))))))))
 refine xf 6 zbv rfl (xlb 0 zbS rfl rfl (TL.done (TQ.then (TC.cond rfl (fun q1=>?_) (fun q1=>?_)))))
 refine sA (xat rfl (dRR ?_))
 first | refine TQ.close 0 2 (zaz 157 189 cb l (⟨c.node,c.look.step l σ,c.top,true,(c.look.step l σ).value,IntKind.i64.wrap (c.step+1)⟩)) (by decide) rfl rfl (fun _ _ _ s1 s2 hd h1 h2=>zap s1 s2 hd h1 h2) ?_ | refine TQ.close 0 2 (zaz 157 189 cb l (⟨c.node,zb0 (l.field c.node 1),true,c.done,c.version,IntKind.i64.wrap (c.step+1)⟩)) (by decide) rfl rfl (fun _ _ _ s1 s2 hd h1 h2=>zap s1 s2 hd h1 h2) ?_ | refine TQ.close 0 2 (zaz 157 189 cb l (⟨(c.look.step l σ).value,zb0 (l.field (c.look.step l σ).value 2),c.top,c.done,c.version,IntKind.i64.wrap (c.step+1)⟩)) (by decide) rfl rfl (fun _ _ _ s1 s2 hd h1 h2=>zap s1 s2 hd h1 h2) ?_ | refine TQ.close 0 2 (zaz 157 189 cb l (⟨c.node,c.look.step l σ,c.top,c.done,c.version,IntKind.i64.wrap (c.step+1)⟩)) (by decide) rfl rfl (fun _ _ _ s1 s2 hd h1 h2=>zap s1 s2 hd h1 h2) ?_ | refine TQ.close 0 2 (zaz 157 189 cb l (c)) (by decide) rfl rfl (fun _ _ _ s1 s2 hd h1 h2=>zap s1 s2 hd h1 h2) ?_
 refine FQ.ret1 (v:=(.bool true)) (Bs:=[_,_]) [0,1] rfl rfl rfl ⟨rfl,rfl,trivial⟩ ?_
 exact ⟨by rw [ClimbS.stp_d q1,q1],by rw [ClimbS.stp_d q1,ClimbS.cnt_d q1]⟩
 refine TC.skip (TQ.then (sA (xmp rfl (xN0 rfl (xf 8 zeo rfl (xli 0 zaf rfl rfl (TL.add _ rfl rfl (rfl) rfl rfl (xN0 rfl ?_))))))))
 refine xf 8 zeo rfl (TL.st 0 #[_,_,_,_,_,_,_,_,_] (.int _ _) rfl rfl rfl rfl rfl rfl zaf rfl rfl trivial (dB (xmp rfl (xN0 rfl (xf 4 zcO rfl (xlp 0 zge rfl rfl (xmp rfl (TL.callD [2,1] [2,1] (zl0 hl) ⟨rfl,rfl,trivial⟩ ⟨rfl,rfl,trivial⟩ zre rfl rfl rfl rfl rfl trivial ?_))))))))
 refine TL.cases rfl (fun q2=>?_) (fun q2=>?_)
 refine xnt rfl (dF rfl (xmp rfl (xN0 rfl (xf 4 zcO rfl (xlp 0 zge rfl rfl (TL.callD [2] [2] zkL ⟨rfl,trivial⟩ ⟨rfl,trivial⟩ zrd rfl rfl rfl rfl rfl trivial (xai rfl (dS ?_))))))))
 refine TC.block (sA (xmp rfl (xN0 rfl (xf 5 zep rfl (xlb 0 zbS rfl rfl (xab rfl (TL.done (TQ.then ?_))))))))
 refine TC.cond rfl (fun q3=>?_) (fun q3=>?_)
 refine TC.region (xmp rfl (xmp rfl (xmi rfl (xN0 rfl (xf 7 zgg rfl (TL.st 0 #[_,_,_,_,_,_,_,_,_] (.int _ _) rfl rfl rfl rfl rfl rfl zaf rfl rfl trivial (xN0 rfl (xf 6 zbv rfl ?_))))))))
 refine TL.st 0 #[_,_,_,_,_,_,_,_,_] (.bool true) rfl rfl rfl rfl rfl rfl zbS rfl rfl trivial (TL.done (TQ.inBlock (TQ.then (sA (xmp rfl (xN0 rfl (xf 6 zbv rfl (xlt 0 zbS rfl rfl ?_))))))))
 refine xat rfl (dR ?_)
 first | refine TQ.close 0 2 (zaz 157 189 cb l (⟨c.node,c.look.step l σ,c.top,true,(c.look.step l σ).value,IntKind.i64.wrap (c.step+1)⟩)) (by decide) rfl rfl (fun _ _ _ s1 s2 hd h1 h2=>zap s1 s2 hd h1 h2) ?_ | refine TQ.close 0 2 (zaz 157 189 cb l (⟨c.node,zb0 (l.field c.node 1),true,c.done,c.version,IntKind.i64.wrap (c.step+1)⟩)) (by decide) rfl rfl (fun _ _ _ s1 s2 hd h1 h2=>zap s1 s2 hd h1 h2) ?_ | refine TQ.close 0 2 (zaz 157 189 cb l (⟨(c.look.step l σ).value,zb0 (l.field (c.look.step l σ).value 2),c.top,c.done,c.version,IntKind.i64.wrap (c.step+1)⟩)) (by decide) rfl rfl (fun _ _ _ s1 s2 hd h1 h2=>zap s1 s2 hd h1 h2) ?_ | refine TQ.close 0 2 (zaz 157 189 cb l (⟨c.node,c.look.step l σ,c.top,c.done,c.version,IntKind.i64.wrap (c.step+1)⟩)) (by decide) rfl rfl (fun _ _ _ s1 s2 hd h1 h2=>zap s1 s2 hd h1 h2) ?_ | refine TQ.close 0 2 (zaz 157 189 cb l (c)) (by decide) rfl rfl (fun _ _ _ s1 s2 hd h1 h2=>zap s1 s2 hd h1 h2) ?_
 refine FQ.ret1 (v:=(.bool true)) (Bs:=[_,_]) [0,1] rfl rfl rfl ⟨rfl,rfl,trivial⟩ ?_
 have d1:c.done=false:=q1
 have d2:(c.look.step l σ).done=true:=by simpa using q2
 rw [ClimbS.stp_b d1 d2 q3,ClimbS.cnt_n d1]
 exact ⟨rfl,rfl⟩
 refine sA (xmi rfl (TL.gtr rfl rfl rfl rfl (fun q4=>?_) (fun q4=>?_)))
 refine xmt rfl (xmi rfl (xmp rfl (xN0 rfl (xf 0 zbK rfl (xL3 0 zaa rfl rfl (TL.callD [] [] (zcA hl) ⟨rfl,trivial⟩ trivial zeV rfl rfl rfl rfl rfl trivial (TL.leq rfl rfl rfl rfl (fun q5=>?_) (fun q5=>?_))))))))
 refine xpT rfl (xat rfl (dT rfl (xmp rfl (xmi rfl (xN0 rfl (xf 3 zdr rfl (TL.st 0 #[_,_,_,_,_,_,_,_,_] (.int _ _) rfl rfl rfl rfl rfl rfl zaf rfl rfl trivial (TL.done ?_))))))))
 refine TQ.then (TC.draw2 [(0,true),(1,true),(2,true),(3,true),(4,true),(5,true),(6,true),(7,true),(8,true),(9,true),(10,false),(11,false),(12,true),(13,true)] 14 [] [0] fc_m (by kernel_rfl) (xmp rfl (xmp rfl (xN0 rfl (xf 0 zbK rfl (xL3 0 zaa rfl rfl (xmp rfl (xN0 rfl ?_))))))))
 refine xf 0 zbK rfl (xL3 0 zaa rfl rfl (xmi rfl (TL.callD [] [] (zaR hl) ⟨rfl,rfl,rfl,trivial⟩ trivial zbN rfl rfl rfl rfl rfl (kL1 rfl trivial) (TL.call [] [3] zdT ⟨rfl,rfl,trivial⟩ trivial zj8 rfl rfl rfl rfl ?_))))
 rintro v Bs ⟨lb,rfl,rfl⟩
 refine ⟨rfl,(kL1 rfl trivial),?_⟩
 refine xN0 rfl (xf 4 zcO rfl (TL.late (TL.st 0 #[_,_,_,_,_,_,_,_,_] (.pointer (some ⟨_,_,none⟩)) rfl rfl rfl rfl rfl rfl zge rfl rfl trivial (TL.done (TQ.inBlock (TQ.then (sA (xmp rfl ?_))))))))
 refine xN0 rfl (xf 6 zbv rfl (xlb 0 zbS rfl rfl (xab rfl (dR ?_))))
 first | refine TQ.close 0 3 (zaz 157 189 cb l (⟨c.node,c.look.step l σ,c.top,true,(c.look.step l σ).value,IntKind.i64.wrap (c.step+1)⟩)) (by decide) rfl rfl (fun _ _ _ s1 s2 hd h1 h2=>zap s1 s2 hd h1 h2) ?_ | refine TQ.close 0 3 (zaz 157 189 cb l (⟨c.node,zb0 (l.field c.node 1),true,c.done,c.version,IntKind.i64.wrap (c.step+1)⟩)) (by decide) rfl rfl (fun _ _ _ s1 s2 hd h1 h2=>zap s1 s2 hd h1 h2) ?_ | refine TQ.close 0 3 (zaz 157 189 cb l (⟨(c.look.step l σ).value,zb0 (l.field (c.look.step l σ).value 2),c.top,c.done,c.version,IntKind.i64.wrap (c.step+1)⟩)) (by decide) rfl rfl (fun _ _ _ s1 s2 hd h1 h2=>zap s1 s2 hd h1 h2) ?_ | refine TQ.close 0 3 (zaz 157 189 cb l (⟨c.node,c.look.step l σ,c.top,c.done,c.version,IntKind.i64.wrap (c.step+1)⟩)) (by decide) rfl rfl (fun _ _ _ s1 s2 hd h1 h2=>zap s1 s2 hd h1 h2) ?_ | refine TQ.close 0 3 (zaz 157 189 cb l (c)) (by decide) rfl rfl (fun _ _ _ s1 s2 hd h1 h2=>zap s1 s2 hd h1 h2) ?_
 refine FQ.ret1 (v:=(.bool _)) (Bs:=[_,_]) [0,1] rfl rfl rfl ⟨rfl,rfl,trivial⟩ ?_
 have d1:c.done=false:=q1
 have d2:(c.look.step l σ).done=true:=by simpa using q2
 rw [ClimbS.stp_c d1 d2 q3 q4 q5,ClimbS.cnt_n d1]
 exact ⟨by rw [d1],rfl⟩
 refine xpG rfl (xaf rfl (TL.done (TQ.then (TC.condF rfl (sA (xmp rfl (xN0 rfl (xf 5 zep rfl ?_))))))))
 refine TL.st 0 #[_,_,_,_,_,_,_,_,_] (.bool true) rfl rfl rfl rfl rfl rfl zbS rfl rfl trivial (TL.done (TQ.then (TC.draw2 [(0,true),(1,true),(2,true),(3,true),(4,true),(5,true),(6,true),(7,true),(8,true),(9,true),(10,true),(11,true),(12,true),(13,false),(14,false),(15,true),(16,true)] 17 [] [0] fc_m (by kernel_rfl) (xmp rfl (xmp rfl (xN0 rfl (xf 0 zbK rfl (xL3 0 zaa rfl rfl ?_))))))))
 refine xmp rfl (xN0 rfl (xf 0 zbK rfl (xL3 0 zaa rfl rfl (xmp rfl (xN0 rfl (xf 3 zdr rfl (xli 0 zaf rfl rfl (TL.callD [] [] (zaR hl) ⟨rfl,rfl,rfl,trivial⟩ trivial zbN rfl rfl rfl rfl rfl (kL1 rfl trivial) ?_))))))))
 refine TL.call [] [4] zdT ⟨rfl,rfl,trivial⟩ trivial zj8 rfl rfl rfl rfl ?_
 rintro v Bs ⟨lb,rfl,rfl⟩
 refine ⟨rfl,(kL1 rfl trivial),?_⟩
 refine xN0 rfl (xf 4 zcO rfl (TL.late (TL.st 0 #[_,_,_,_,_,_,_,_,_] (.pointer (some ⟨_,_,none⟩)) rfl rfl rfl rfl rfl rfl zge rfl rfl trivial (TL.done (TQ.inBlock (TQ.then (sA (xmp rfl ?_))))))))
 refine xN0 rfl (xf 6 zbv rfl (xlb 0 zbS rfl rfl (xab rfl (dR ?_))))
 first | refine TQ.close 0 4 (zaz 157 189 cb l (⟨c.node,c.look.step l σ,c.top,true,(c.look.step l σ).value,IntKind.i64.wrap (c.step+1)⟩)) (by decide) rfl rfl (fun _ _ _ s1 s2 hd h1 h2=>zap s1 s2 hd h1 h2) ?_ | refine TQ.close 0 4 (zaz 157 189 cb l (⟨c.node,zb0 (l.field c.node 1),true,c.done,c.version,IntKind.i64.wrap (c.step+1)⟩)) (by decide) rfl rfl (fun _ _ _ s1 s2 hd h1 h2=>zap s1 s2 hd h1 h2) ?_ | refine TQ.close 0 4 (zaz 157 189 cb l (⟨(c.look.step l σ).value,zb0 (l.field (c.look.step l σ).value 2),c.top,c.done,c.version,IntKind.i64.wrap (c.step+1)⟩)) (by decide) rfl rfl (fun _ _ _ s1 s2 hd h1 h2=>zap s1 s2 hd h1 h2) ?_ | refine TQ.close 0 4 (zaz 157 189 cb l (⟨c.node,c.look.step l σ,c.top,c.done,c.version,IntKind.i64.wrap (c.step+1)⟩)) (by decide) rfl rfl (fun _ _ _ s1 s2 hd h1 h2=>zap s1 s2 hd h1 h2) ?_ | refine TQ.close 0 4 (zaz 157 189 cb l (c)) (by decide) rfl rfl (fun _ _ _ s1 s2 hd h1 h2=>zap s1 s2 hd h1 h2) ?_
 refine FQ.ret1 (v:=(.bool _)) (Bs:=[_,_]) [0,1] rfl rfl rfl ⟨rfl,rfl,trivial⟩ ?_
 have d1:c.done=false:=q1
 have d2:(c.look.step l σ).done=true:=by simpa using q2
 rw [ClimbS.stp_e d1 d2 q3 (fun h=>q5 h.2),ClimbS.cnt_n d1]
 exact ⟨by rw [d1],rfl⟩
 refine xmf rfl (xo rfl (xo rfl (xo rfl (xo rfl (xo rfl (xo rfl (xo rfl (xpF rfl ?_))))))))
 refine xaf rfl (TL.done (TQ.then (TC.condF rfl (sA (xmp rfl (xN0 rfl (xf 5 zep rfl (TL.st 0 #[_,_,_,_,_,_,_,_,_] (.bool true) rfl rfl rfl rfl rfl rfl zbS rfl rfl trivial ?_))))))))
 refine TL.done (TQ.then (TC.draw2 [(0,true),(1,true),(2,true),(3,true),(4,true),(5,true),(6,true),(7,true),(8,true),(9,true),(10,true),(11,true),(12,true),(13,false),(14,false),(15,true),(16,true)] 17 [] [0] fc_m (by kernel_rfl) (xmp rfl (xmp rfl (xN0 rfl (xf 0 zbK rfl (xL3 0 zaa rfl rfl (xmp rfl ?_))))))))
 refine xN0 rfl (xf 0 zbK rfl (xL3 0 zaa rfl rfl (xmp rfl (xN0 rfl (xf 3 zdr rfl (xli 0 zaf rfl rfl (TL.callD [] [] (zaR hl) ⟨rfl,rfl,rfl,trivial⟩ trivial zbN rfl rfl rfl rfl rfl (kL1 rfl trivial) (TL.call [] [5] zdT ⟨rfl,rfl,trivial⟩ trivial zj8 rfl rfl rfl rfl ?_))))))))
 rintro v Bs ⟨lb,rfl,rfl⟩
 refine ⟨rfl,(kL1 rfl trivial),?_⟩
 refine xN0 rfl (xf 4 zcO rfl (TL.late (TL.st 0 #[_,_,_,_,_,_,_,_,_] (.pointer (some ⟨_,_,none⟩)) rfl rfl rfl rfl rfl rfl zge rfl rfl trivial (TL.done (TQ.inBlock (TQ.then (sA (xmp rfl ?_))))))))
 refine xN0 rfl (xf 6 zbv rfl (xlb 0 zbS rfl rfl (xab rfl (dR ?_))))
 first | refine TQ.close 0 5 (zaz 157 189 cb l (⟨c.node,c.look.step l σ,c.top,true,(c.look.step l σ).value,IntKind.i64.wrap (c.step+1)⟩)) (by decide) rfl rfl (fun _ _ _ s1 s2 hd h1 h2=>zap s1 s2 hd h1 h2) ?_ | refine TQ.close 0 5 (zaz 157 189 cb l (⟨c.node,zb0 (l.field c.node 1),true,c.done,c.version,IntKind.i64.wrap (c.step+1)⟩)) (by decide) rfl rfl (fun _ _ _ s1 s2 hd h1 h2=>zap s1 s2 hd h1 h2) ?_ | refine TQ.close 0 5 (zaz 157 189 cb l (⟨(c.look.step l σ).value,zb0 (l.field (c.look.step l σ).value 2),c.top,c.done,c.version,IntKind.i64.wrap (c.step+1)⟩)) (by decide) rfl rfl (fun _ _ _ s1 s2 hd h1 h2=>zap s1 s2 hd h1 h2) ?_ | refine TQ.close 0 5 (zaz 157 189 cb l (⟨c.node,c.look.step l σ,c.top,c.done,c.version,IntKind.i64.wrap (c.step+1)⟩)) (by decide) rfl rfl (fun _ _ _ s1 s2 hd h1 h2=>zap s1 s2 hd h1 h2) ?_ | refine TQ.close 0 5 (zaz 157 189 cb l (c)) (by decide) rfl rfl (fun _ _ _ s1 s2 hd h1 h2=>zap s1 s2 hd h1 h2) ?_
 refine FQ.ret1 (v:=(.bool _)) (Bs:=[_,_]) [0,1] rfl rfl rfl ⟨rfl,rfl,trivial⟩ ?_
 have d1:c.done=false:=q1
 have d2:(c.look.step l σ).done=true:=by simpa using q2
 rw [ClimbS.stp_e d1 d2 q3 (fun h=>q4 h.1),ClimbS.cnt_n d1]
 exact ⟨by rw [d1],rfl⟩
 refine xnf rfl (dT rfl (xaf rfl (dRR ?_)))
 first | refine TQ.close 0 2 (zaz 157 189 cb l (⟨c.node,c.look.step l σ,c.top,true,(c.look.step l σ).value,IntKind.i64.wrap (c.step+1)⟩)) (by decide) rfl rfl (fun _ _ _ s1 s2 hd h1 h2=>zap s1 s2 hd h1 h2) ?_ | refine TQ.close 0 2 (zaz 157 189 cb l (⟨c.node,zb0 (l.field c.node 1),true,c.done,c.version,IntKind.i64.wrap (c.step+1)⟩)) (by decide) rfl rfl (fun _ _ _ s1 s2 hd h1 h2=>zap s1 s2 hd h1 h2) ?_ | refine TQ.close 0 2 (zaz 157 189 cb l (⟨(c.look.step l σ).value,zb0 (l.field (c.look.step l σ).value 2),c.top,c.done,c.version,IntKind.i64.wrap (c.step+1)⟩)) (by decide) rfl rfl (fun _ _ _ s1 s2 hd h1 h2=>zap s1 s2 hd h1 h2) ?_ | refine TQ.close 0 2 (zaz 157 189 cb l (⟨c.node,c.look.step l σ,c.top,c.done,c.version,IntKind.i64.wrap (c.step+1)⟩)) (by decide) rfl rfl (fun _ _ _ s1 s2 hd h1 h2=>zap s1 s2 hd h1 h2) ?_ | refine TQ.close 0 2 (zaz 157 189 cb l (c)) (by decide) rfl rfl (fun _ _ _ s1 s2 hd h1 h2=>zap s1 s2 hd h1 h2) ?_
 refine FQ.ret1 (v:=(.bool false)) (Bs:=[_,_]) [0,1] rfl rfl rfl ⟨rfl,rfl,trivial⟩ ?_
 have d1:c.done=false:=q1
 have d2:(c.look.step l σ).done=false:=by simpa using q2
 rw [ClimbS.stp_a d1 d2,ClimbS.cnt_n d1]
 exact ⟨by rw [d1],rfl⟩
theorem zqr {l:Lay} (hl:l.Ok) {ab mb:Nat} {σ:Array UInt64}:Go.Eng.Fn Tryz.prog 124 [zfz l 88 (.agg #[.pointer (some ⟨ab,0,none⟩)])] [zaF ab mb 140 71 (σ)] (fun x Bs=>∃ d:Array Int,Bs=[zaF ab mb 140 71 (σ),ownA encI 1 3 x d]∧d.size≤300∧AllD l σ d l.V (l.V+1)):=by
 have hb:=zem hl
 refine Fn.enter (Tryz.func124) rfl rfl (fun w0 R=>?_)
 refine sA (xB 1 rfl (fun bk1=>(TL.asg (.slice none 0 0) rfl rfl rfl (dA (TL.asg (.slice none 0 0) rfl rfl rfl (dS (TC.seq (TC.nilA 2 (A:=ownA encI 1 3 (.slice none 0 0) #[]) (.inl ⟨rfl,rfl⟩) (TC.region ?_)))))))))
 refine xf 0 zau rfl (xf 0 zaq rfl (xli 1 zaf rfl rfl (xmi rfl (dK (TC.loopK (X:=Nat×Value×Array Int) [1,2,11] [0,1] (fun ⟨u,v,d⟩=>[(12,.int .i64 ((u:Nat):Int)),(3,v)]) (fun ⟨u,v,d⟩=>[(2,ownA encI 1 3 v d)]) (fun ⟨u,v,d⟩=>u≤l.V∧d.size≤u * 17∧AllD l σ d u (u+1)) (fun ⟨u,v,d⟩=>l.V - u) ((0,.slice none 0 0,#[])) ⟨Nat.zero_le _,Nat.zero_le _,AllD.start (by decide)⟩ ⟨rfl,rfl,trivial⟩ ⟨rfl,trivial⟩ (fun y hI=>?_))))))
 obtain ⟨u,v,d⟩:=y
 obtain ⟨hu,hdz,hA⟩:=hI
 replace hu:u≤l.V:=hu
 replace hdz:d.size≤u * 17:=hdz
 replace hA:AllD l σ d u (u+1):=hA
 refine TC.sub (env':=[(12,_),(3,_),(1,_),(2,_),(11,_)]) (L':=[(2,_),(0,_),(1,_)]) ⟨rfl,rfl,rfl,rfl,rfl,trivial⟩ ⟨rfl,rfl,rfl,trivial⟩ (sA (TL.lss rfl rfl rfl rfl (fun q1=>?_) (fun q1=>?_)))
 refine dS (TC.condT rfl (TC.skip (TQ.then (TC.seq (TC.block (sA (xmi rfl (xai rfl ?_))))))))
 refine dA (xmi rfl (TL.add (((u+1:Nat):Int)) rfl rfl (wrN (by omega)) rfl rfl (xai rfl (dK (TC.loopK (X:=Nat×Value×Array Int) [1,2,4,11,12] [0,1] (fun ⟨w,v2,d2⟩=>[(5,.int .i64 ((w:Nat):Int)),(3,v2)]) (fun ⟨w,v2,d2⟩=>[(2,ownA encI 1 3 v2 d2)]) (fun ⟨w,v2,d2⟩=>(u+1≤w∧(w≤l.V∨w=u+1))∧d2.size≤u * 17+w∧AllD l σ d2 u w) (fun ⟨w,v2,d2⟩=>l.V - w) ((u+1,v,d)) ⟨⟨Nat.le_refl _,.inr rfl⟩,(show d.size≤u * 17+(u+1) by omega),hA⟩ ⟨rfl,rfl,trivial⟩ ⟨rfl,trivial⟩ (fun y hI=>?_))))))
 obtain ⟨w,v2,d2⟩:=y
 obtain ⟨⟨hw1,hw2⟩,hdz2,hA2⟩:=hI
 replace hw1:u+1≤w:=hw1
 replace hw2:w≤l.V∨w=u+1:=hw2
 replace hdz2:d2.size≤u * 17+w:=hdz2
 replace hA2:AllD l σ d2 u w:=hA2
 refine TC.sub (env':=[(5,_),(3,_),(1,_),(2,_),(4,_),(11,_),(12,_)]) (L':=[(2,_),(0,_),(1,_)]) ⟨rfl,rfl,rfl,rfl,rfl,rfl,rfl,trivial⟩ ⟨rfl,rfl,rfl,trivial⟩ (sB (xmi rfl (xf 0 zau rfl (xf 0 zaq rfl (xli 1 zaf rfl rfl (TL.lss rfl rfl rfl rfl (fun q2=>?_) (fun q2=>?_)))))))
 refine TL.done (TQ.then (TC.condT rfl (TC.skip (TQ.then (TC.seq (TC.block (sA (xL4 1 zaM rfl rfl ?_))))))))
 refine xmi rfl (xmi rfl (TL.callD [0] [0] (zgb zbl hl) ⟨rfl,rfl,rfl,trivial⟩ ⟨rfl,trivial⟩ ziw rfl rfl rfl rfl rfl trivial (xmu rfl (xei rfl rfl (TL.ext (.bool _) rfl rfl rfl rfl (TL.ext (.bool _) rfl rfl rfl rfl (xai rfl (xab rfl ?_))))))))
 refine xab rfl (dA (xmb rfl (TL.cases rfl (fun q3=>?_) (fun q3=>?_))))
 refine TL.done (TQ.then (TC.condT rfl (TC.region (xmv rfl (xmi rfl (TL.bsN 3 [_] (encI (find l σ (u:Int) (w:Int)).slot) zfh fc_z3 ⟨rfl,trivial⟩ rfl (lit1 rfl) rfl rfl (fun bk3=>⟨trivial,?_⟩)))))))
 refine TL.appS 2 3 (d2:=#[(find l σ (u:Int) (w:Int)).slot]) rfl (rfl) rfl (fun _=>rfl) rfl rfl (row1 rfl) zol (by decide) zkS (by simp; omega) rfl rfl (fun v4=>⟨trivial,?_⟩)
 refine xav rfl (dI (xmi rfl (TL.add (((w+1:Nat):Int)) rfl rfl (wrN (by omega)) rfl rfl (xai rfl (TL.done (TQ.roundK ((w+1,_,d2++#[(find l σ (u:Int) (w:Int)).slot])) ⟨⟨⟨(show u+1≤w+1 by omega),.inl (show w+1≤l.V by omega)⟩,(show (d2++#[(find l σ (u:Int) (w:Int)).slot]).size≤u * 17+(w+1) by simp; omega),hA2.yes (by omega) (by omega) (by assumption)⟩,(show l.V - (w+1)<l.V - w by omega)⟩ ⟨rfl,rfl,trivial⟩ ⟨rfl,trivial⟩ (kE5 rfl rfl rfl rfl rfl trivial) (kL2 rfl rfl trivial)))))))
 refine TL.done (TQ.then (TC.condF rfl (TC.skip (TQ.inBlock (TQ.then (TC.region (xmi rfl (TL.add (((w+1:Nat):Int)) rfl rfl (wrN (by omega)) rfl rfl ?_))))))))
 refine xai rfl (TL.done (TQ.roundK ((w+1,_,d2)) ⟨⟨⟨(show u+1≤w+1 by omega),.inl (show w+1≤l.V by omega)⟩,(show d2.size≤u * 17+(w+1) by omega),hA2.no (by assumption)⟩,(show l.V - (w+1)<l.V - w by omega)⟩ ⟨rfl,rfl,trivial⟩ ⟨rfl,trivial⟩ (kE5 rfl rfl rfl rfl rfl trivial) (kL2 rfl rfl trivial)))
 refine TL.done (TQ.then (TC.condF rfl (TC.exit (TQ.thenExit (TQ.thenExit (TQ.blockHere (TQ.inBlock (TQ.then ?_))))))))
 refine TC.region (TL.add (((u+1:Nat):Int)) rfl rfl (wrN (by omega)) rfl rfl (xmi rfl (TL.done (TQ.roundK ((u+1,_,d2)) ⟨⟨(show u+1≤l.V by omega),(show d2.size≤(u+1) * 17 by omega),hA2.row (by omega) (by omega)⟩,(show l.V - (u+1)<l.V - u by omega)⟩ ⟨rfl,rfl,trivial⟩ ⟨rfl,trivial⟩ (kE3 rfl rfl rfl trivial) (kL2 rfl rfl trivial)))))
 refine dS (TC.condF rfl (TC.exit (TQ.thenExit (TQ.thenExit (TQ.blockHere (TQ.then (sA (xmv rfl ?_))))))))
 refine xav rfl (dR ?_)
 refine FQ.ret1 (v:=_) (Bs:=[_,_]) [0,2] rfl rfl rfl ⟨rfl,rfl,trivial⟩ ?_
 obtain rfl:u=l.V:=by omega
 exact ⟨d,rfl,by omega,hA⟩
theorem zga {l:Lay} (hl:l.Ok) {pb ab mb:Nat} {σ:Array UInt64} {p:Pen} {g:G} (hE:EdgeOk l σ g):FnD Tryz.prog 95 [.pointer (some ⟨pb,0,none⟩),adjV l 88 (.agg #[.pointer (some ⟨ab,0,none⟩)]) p] [pt pb (.cells #[.int .i64 l.V,.int .i64 l.S,.int .i64 l.T,.pointer (some ⟨ab,0,none⟩)] 84),zaF ab mb 140 71 (σ)] (.int .i64 ((GA.of g).free l)) [pt pb (.cells #[.int .i64 l.V,.int .i64 l.S,.int .i64 l.T,.pointer (some ⟨ab,0,none⟩)] 84),zaF ab mb 140 71 (σ)]:=by
 have hb:=zem hl
 refine Fn.enter (Tryz.func95) rfl rfl (fun w0 R=>?_)
 refine sA (xB 2 rfl (fun bk2=>(xai rfl (dA (xmp rfl (xN0 rfl (xf 0 zbk rfl (xf 1 zba rfl (xli 0 zaf rfl rfl ?_)))))))))
 refine TL.mkO 3 (enc:=encB) (N:=l.S) (false) rfl rfl zdX zoe rfl (by decide) (by omega) rfl rfl (fun bk3=>⟨trivial,?_⟩)
 refine xas rfl (dB (xf 0 zaE rfl (xf 0 zaj rfl (xf 6 zao rfl (xL4 2 zaM rfl rfl (TL.call [1] [1,4] (zqr hl) ⟨rfl,trivial⟩ ⟨rfl,trivial⟩ zqi rfl rfl rfl rfl ?_))))))
 rintro x Bs ⟨d,rfl,hdz,hdA⟩
 refine ⟨rfl,trivial,?_⟩
 refine TL.ownW 4 rfl (fun a9 g9 c9 hv9 hc9 ha9=>?_)
 subst hv9
 refine xz zfh rfl (xmi rfl (dK (TC.loopK (X:=Nat×Array Bool) [4,5,20,21] [0,1,2,4] (fun ⟨k,D⟩=>[(22,.int .i64 ((k:Nat):Int))]) (fun ⟨k,D⟩=>[(3,ownA encB 1 4 (.slice (some ⟨bk3,0,none⟩) l.S l.S) D)]) (fun ⟨k,D⟩=>(k≤d.size∧D.size=l.S)∧UsB d k D) (fun ⟨k,D⟩=>d.size - k) ((0,Array.replicate l.S false)) ⟨⟨Nat.zero_le _,by simp⟩,UsB.start⟩ ⟨rfl,trivial⟩ ⟨rfl,trivial⟩ (fun y hI=>?_))))
 obtain ⟨k,D⟩:=y
 obtain ⟨⟨hk,hDz⟩,hU⟩:=hI
 replace hk:k≤d.size:=hk
 replace hDz:D.size=l.S:=hDz
 replace hU:UsB d k D:=hU
 refine TC.sub (env':=[(22,_),(4,_),(5,_),(20,_),(21,_)]) (L':=[(3,_),(0,_),(1,_),(2,_),(4,_)]) ⟨rfl,rfl,rfl,rfl,rfl,trivial⟩ ⟨rfl,rfl,rfl,rfl,rfl,trivial⟩ (sA (TL.lss rfl rfl rfl rfl (fun q1=>?_) (fun q1=>?_)))
 refine dS (TC.condT rfl (TC.skip (TQ.then (TC.seq (TC.block (TC.seq ?_))))))
 obtain ⟨s,hs,hsl⟩:=hdA.slot hl hE (k:=k) (by omega)
 refine TC.region (TL.iaO rfl ha9 rfl zfh (by omega) rfl rfl (TL.ldRS 4 (.int .i64 (s:Int)) rfl rfl (zf2 ha9) (by omega) (by rw [←hs]; rfl) zaf rfl rfl (xai rfl (dG (xms rfl (xmi rfl (TL.iaO rfl (fun _=>rfl) rfl zbM (by omega) rfl rfl (TL.stOF 3 (o:=0) (i:=s) (cur:=D[s]!) (u:=true) (by omega) rfl rfl rfl rfl (by omega) (rfl) ⟨rfl,rfl⟩ rfl zbS rfl rfl trivial ?_))))))))
 refine dI (TL.add (((k+1:Nat):Int)) rfl rfl (wrN (by omega)) rfl rfl (xmi rfl (TL.done (TQ.roundK ((k+1,_)) ⟨⟨⟨(show k+1≤d.size by omega),(show (D.setIfInBounds _ _).size=l.S by simp; omega)⟩,hU.step hs⟩,(show d.size - (k+1)<d.size - k by omega)⟩ ⟨rfl,trivial⟩ ⟨rfl,trivial⟩ (kE4 rfl rfl rfl rfl trivial) (kL4 rfl rfl rfl rfl trivial)))))
 refine dS (TC.condF rfl (TC.exit (TQ.thenExit (TQ.thenExit (TQ.blockHere (TQ.then (TC.seq (TC.seq ?_))))))))
 obtain rfl:k=d.size:=by omega
 refine TC.region (xms rfl (xz zbM rfl (xmi rfl (dK (TC.loopK (X:=Nat) [30,31] [0,1,2,3,4] (fun s=>[(32,.int .i64 ((s:Nat):Int))]) (fun s=>[]) (fun s=>s≤l.S∧∀ j,j<s→D[j]! =true) (fun s=>l.S - s) (0) ⟨Nat.zero_le _,fun j hj=>absurd hj (Nat.not_lt_zero _)⟩ ⟨rfl,trivial⟩ trivial (fun s hI=>?_))))))
 obtain ⟨hs,hj⟩:=hI
 refine TC.sub (env':=[(32,_),(30,_),(31,_)]) (L':=[(0,_),(1,_),(2,_),(3,_),(4,_)]) ⟨rfl,rfl,rfl,trivial⟩ ⟨rfl,rfl,rfl,rfl,rfl,trivial⟩ (sA (TL.lss rfl rfl rfl rfl (fun q2=>?_) (fun q2=>?_)))
 refine dS (TC.condT rfl (TC.skip (TQ.then (TC.seq (TC.block (sA (xmi rfl (TL.iaO rfl (fun _=>rfl) rfl zbM (by omega) rfl rfl ?_))))))))
 refine TL.ldRS 3 (.bool _) rfl rfl (zn0 (by omega)) (by omega) (rfl) zbS rfl rfl (xai rfl (xab rfl (dA (xmb rfl (TL.cases rfl (fun q3=>?_) (fun q3=>?_))))))
 refine xnt rfl (TL.done (TQ.then (TC.condF rfl (TC.skip (TQ.inBlock (TQ.then (TC.region (TL.add (((s+1:Nat):Int)) rfl rfl (wrN (by omega)) rfl rfl ?_))))))))
 refine xmi rfl (TL.done (TQ.roundK (s+1) ⟨⟨by omega,fun j hjs=>by by_cases he:j=s; subst he; assumption; exact hj j (by omega)⟩,by omega⟩ ⟨rfl,trivial⟩ trivial (kE2 rfl rfl trivial) (kL5 rfl rfl rfl rfl rfl trivial)))
 refine xnf rfl (dT rfl (xmi rfl (xai rfl (dR (TQ.blockRet (TQ.thenRet (TQ.thenRet (TQ.blockRet ?_))))))))
 refine TQ.thenRet ?_
 refine FQ.ret1 (v:=(.int _ _)) (Bs:=[_,_]) [0,1] rfl rfl rfl ⟨rfl,rfl,trivial⟩ ?_
 exact ⟨iE (hU.free_at hl hE hdA hDz (s:=s) (by omega) (by assumption) hj).symm,rfl⟩
 refine dS (TC.condF rfl (TC.exit (TQ.thenExit (TQ.thenExit (TQ.blockHere (TQ.then (sA (xai rfl ?_))))))))
 refine dR ?_
 refine FQ.ret1 (v:=(.int _ _)) (Bs:=[_,_]) [0,1] rfl rfl rfl ⟨rfl,rfl,trivial⟩ ?_
 exact ⟨iE (hU.free_no hl hE hdA hDz (fun j h=>hj j (by omega))).symm,rfl⟩
set_option maxHeartbeats 1000000 in
theorem zm7 {l:Lay} (hl:l.Ok) {pb ab mb:Nat} {σ:Array UInt64} {p:Pen} {a:Option Addr} {b off n c:Nat} {A:Assn} {f:Nat→Op3} (ha:0<n→a=some ⟨b,off,none⟩) (hA:zbj A zm4 3 b off n f) (hn:n≤1000) {pr:Int→Int} {g:G} {par0 ver0:Int→Int} (hp:PenOk p) (ht:p.thread≤l.T) (hW:Writ l pr p par0 ver0 σ g)  : Go.Eng.Fn Tryz.prog 36 [.pointer (some ⟨pb,0,none⟩),.agg #[.int .i64 p.thread,.int .i64 p.tag],.slice a n c] [pt pb (.cells #[.int .i64 l.V,.int .i64 l.S,.int .i64 l.T,.pointer (some ⟨ab,0,none⟩)] 84),zaF ab mb 140 71 (σ),A] (fun x Bs=>x=.tuple #[]∧∃ σ2 g2,Bs=[pt pb (.cells #[.int .i64 l.V,.int .i64 l.S,.int .i64 l.T,.pointer (some ⟨ab,0,none⟩)] 84),zaF ab mb 140 71 (σ2),A]∧Writ l pr p par0 ver0 σ2 g2∧GA.of g2=zcN l (GA.of g) f n∧Rch l p σ σ2):=by
 have hb:=zem hl
 refine Fn.enter (Tryz.func36) rfl rfl (fun w0 R=>?_)
 refine sA (xB 3 rfl (fun bk3=>(dS (TC.drawT (.br [(0,true),(1,true),(2,true),(3,true),(4,true),(5,true),(6,true),(7,true),(10,true)] 8 12 (.br [(9,true)] 11 12 (.fin [(12,false),(13,false)]) (.fin [(11,false),(13,false)])) (.fin [(8,false),(9,true),(11,false),(13,false)])) [0,3] fc_m (by kernel_rfl) (TT.br (xmp rfl (xN0 rfl (xf 0 zbk rfl (xL3 0 zaa rfl rfl (xmp rfl ?_))))))))))
 refine xN0 rfl (xf 3 zdc rfl (xlp 0 zgc rfl rfl (xL2 3 zbA rfl rfl (TL.both ?_ ?_))))
 refine TL.callD [] [] zcS ⟨rfl,trivial⟩ trivial zfx rfl rfl rfl rfl rfl (kL2 rfl rfl trivial) (TL.tree (TT.br (TL.miN (v:=(.agg _)) rfl zdL rfl rfl (TL.both ?_ ?_))))
 refine TL.callD [] [] (zhC (p:=p)) ⟨rfl,rfl,rfl,trivial⟩ trivial zmw rfl rfl rfl rfl rfl (kL2 rfl rfl trivial) (TL.tree (TT.fin (TL.alloc 4 (cs:=#[.int .i64 0,.int .i64 0,.int .i64 0,.nilIface,.int .i64 0,.int .i64 0,.int .i64 0,.int .i64 0,.int .i64 0,.nilIface]) ziu rfl rfl rfl (fun _=>(kL2 rfl rfl trivial)) (fun bk4=>(TL.stW 4 10 [_,_,_,_,_,_,_,_,_,_] rfl rfl rfl rfl rfl rfl zaL rfl rfl (kL2 rfl rfl trivial) (dA (xms rfl (xz zaZ rfl (xmi rfl (dK ?_))))))))))
 refine TC.loopK (X:=Nat×M×G) [0,6,25,26] [0,2,3,4] (fun ⟨i,σ1,g1⟩=>[(27,.int .i64 ((i:Nat):Int))]) (fun ⟨i,σ1,g1⟩=>[(1,zaF ab mb 140 71 (σ1))]) (fun ⟨i,σ1,g1⟩=>i≤n∧Writ l pr p par0 ver0 σ1 g1∧GA.of g1=zcN l (GA.of g) f i∧Rch l p σ σ1) (fun ⟨i,σ1,g1⟩=>n - i) ((0,σ,g)) ⟨Nat.zero_le _,hW,rfl,.refl⟩ ⟨rfl,trivial⟩ ⟨rfl,trivial⟩ (fun y hI=>?_)
 obtain ⟨i,σ1,g1⟩:=y
 obtain ⟨hi,hW1,hG1,hR1⟩:=hI
 replace hR1:Rch l p σ σ1:=hR1
 replace hi:i≤n:=hi
 replace hW1:Writ l pr p par0 ver0 σ1 g1:=hW1
 replace hG1:GA.of g1=zcN l (GA.of g) f i:=hG1
 refine TC.sub (env':=[(27,_),(0,_),(6,_),(25,_),(26,_)]) (L':=[(1,_),(0,_),(2,_),(3,_),(4,_)]) ⟨rfl,rfl,rfl,rfl,rfl,trivial⟩ ⟨rfl,rfl,rfl,rfl,rfl,trivial⟩ (sA (TL.lss rfl rfl rfl rfl (fun q1=>?_) (fun q1=>?_)))
 refine dS (TC.condT rfl (TC.skip (TQ.then (TC.seq (TC.block (sA (TL.iaO rfl ha rfl zaZ (by omega) rfl rfl (TL.ldRx 2 [_,_,_] rfl rfl hA (by omega) rfl zde rfl rfl ?_))))))))
 refine TL.alloc 5 (cs:=#[.int .i64 0,.int .i64 0,.int .i64 0]) zjm rfl rfl rfl (fun _=>trivial) (fun bk5=>(TL.stW 5 3 [_,_,_] rfl rfl rfl rfl rfl rfl zde rfl rfl trivial (dS (TC.seq (TC.draw [(0,true),(1,true),(2,true),(3,true),(4,true),(5,true),(6,true),(7,true),(8,true),(9,true),(10,true),(11,true),(12,true),(13,true),(14,true),(15,true),(16,true),(17,true),(18,true),(19,true),(20,true),(21,true),(22,true),(23,true),(24,true),(25,true),(26,true),(27,true),(28,true),(29,true),(30,true),(31,true),(32,true),(33,true),(34,true)] [0,5] fc_m (by kernel_rfl) (xf 1 zaH rfl (xli 5 zaf rfl rfl ?_)))))))
 refine xf 2 zaG rfl (xli 5 zaf rfl rfl (TL.eql rfl rfl rfl rfl (fun q2=>?_) (fun q2=>?_)))
 refine xmt rfl (xo rfl (xo rfl (xo rfl (xpT rfl (xmt rfl (xo rfl (xo rfl (xo rfl ?_))))))))
 refine xo rfl (xo rfl (xo rfl (xo rfl (xo rfl (xpT rfl (xmt rfl (xo rfl (xo rfl ?_))))))))
 refine xo rfl (xpT rfl (xmt rfl (xo rfl (xo rfl (xo rfl (xo rfl (xo rfl (xo rfl ?_))))))))
 refine xo rfl (xo rfl (xpT rfl (TL.done (TQ.then (TC.condT rfl (TC.exit (TQ.thenExit (TQ.blockHere ?_))))))))
 refine TQ.then (TC.region (TL.add (((i+1:Nat):Int)) rfl rfl (wrN (by omega)) rfl rfl (xmi rfl (TL.done (TQ.roundK ((i+1,σ1,g1)) ⟨⟨(show i+1≤n by omega),hW1,zay hG1 (hW1.skip hl (fun hv=>by first | (exfalso; obtain ⟨v1,v2,v3,v4,v5⟩:=hv; omega) | exact ⟨fun ⟨h1,h2,h3⟩=>by first | omega | simp_all,fun ⟨h1,h2⟩=>by first | omega | simp_all⟩)).symm,hR1⟩,(show n - (i+1)<n - i by omega)⟩ ⟨rfl,trivial⟩ ⟨rfl,trivial⟩ (kE4 rfl rfl rfl rfl trivial) (kL4 rfl rfl rfl rfl trivial))))))
 refine xmf rfl (xf 1 zaH rfl (xli 5 zaf rfl rfl (TL.lss rfl rfl rfl rfl (fun q3=>?_) (fun q3=>?_))))
 refine xpH rfl (xmt rfl (xo rfl (xo rfl (xo rfl (xo rfl (xo rfl (xo rfl (xo rfl ?_))))))))
 refine xo rfl (xpT rfl (xmt rfl (xo rfl (xo rfl (xo rfl (xpT rfl (xmt rfl (xo rfl ?_))))))))
 refine xo rfl (xo rfl (xo rfl (xo rfl (xo rfl (xo rfl (xo rfl (xpT rfl (TL.done ?_))))))))
 refine TQ.then (TC.condT rfl (TC.exit (TQ.thenExit (TQ.blockHere (TQ.then (TC.region (TL.add (((i+1:Nat):Int)) rfl rfl (wrN (by omega)) rfl rfl (xmi rfl ?_))))))))
 refine TL.done (TQ.roundK ((i+1,σ1,g1)) ⟨⟨(show i+1≤n by omega),hW1,zay hG1 (hW1.skip hl (fun hv=>by first | (exfalso; obtain ⟨v1,v2,v3,v4,v5⟩:=hv; omega) | exact ⟨fun ⟨h1,h2,h3⟩=>by first | omega | simp_all,fun ⟨h1,h2⟩=>by first | omega | simp_all⟩)).symm,hR1⟩,(show n - (i+1)<n - i by omega)⟩ ⟨rfl,trivial⟩ ⟨rfl,trivial⟩ (kE4 rfl rfl rfl rfl trivial) (kL4 rfl rfl rfl rfl trivial))
 refine xpF rfl (xmf rfl (xf 1 zaH rfl (xli 5 zaf rfl rfl (xmp rfl (xN0 rfl (xf 0 zbk rfl (xf 0 zaq rfl (xli 0 zaf rfl rfl ?_))))))))
 refine TL.geq rfl rfl rfl rfl (fun q4=>?_) (fun q4=>?_)
 refine xpH rfl (xmt rfl (xo rfl (xo rfl (xo rfl (xpT rfl (xmt rfl (xo rfl (xo rfl ?_))))))))
 refine xo rfl (xo rfl (xo rfl (xo rfl (xo rfl (xo rfl (xpT rfl (TL.done (TQ.then ?_))))))))
 refine TC.condT rfl (TC.exit (TQ.thenExit (TQ.blockHere (TQ.then (TC.region (TL.add (((i+1:Nat):Int)) rfl rfl (wrN (by omega)) rfl rfl (xmi rfl (TL.done ?_))))))))
 refine TQ.roundK ((i+1,σ1,g1)) ⟨⟨(show i+1≤n by omega),hW1,zay hG1 (hW1.skip hl (fun hv=>by first | (exfalso; obtain ⟨v1,v2,v3,v4,v5⟩:=hv; omega) | exact ⟨fun ⟨h1,h2,h3⟩=>by first | omega | simp_all,fun ⟨h1,h2⟩=>by first | omega | simp_all⟩)).symm,hR1⟩,(show n - (i+1)<n - i by omega)⟩ ⟨rfl,trivial⟩ ⟨rfl,trivial⟩ (kE4 rfl rfl rfl rfl trivial) (kL4 rfl rfl rfl rfl trivial)
 refine xpF rfl (xmf rfl (xf 2 zaG rfl (xli 5 zaf rfl rfl (TL.lss rfl rfl rfl rfl (fun q5=>?_) (fun q5=>?_)))))
 refine xpH rfl (xmt rfl (xo rfl (xo rfl (xo rfl (xo rfl (xo rfl (xo rfl (xo rfl ?_))))))))
 refine xo rfl (xpT rfl (TL.done (TQ.then (TC.condT rfl (TC.exit (TQ.thenExit (TQ.blockHere (TQ.then ?_))))))))
 refine TC.region (TL.add (((i+1:Nat):Int)) rfl rfl (wrN (by omega)) rfl rfl (xmi rfl (TL.done (TQ.roundK ((i+1,σ1,g1)) ⟨⟨(show i+1≤n by omega),hW1,zay hG1 (hW1.skip hl (fun hv=>by first | (exfalso; obtain ⟨v1,v2,v3,v4,v5⟩:=hv; omega) | exact ⟨fun ⟨h1,h2,h3⟩=>by first | omega | simp_all,fun ⟨h1,h2⟩=>by first | omega | simp_all⟩)).symm,hR1⟩,(show n - (i+1)<n - i by omega)⟩ ⟨rfl,trivial⟩ ⟨rfl,trivial⟩ (kE4 rfl rfl rfl rfl trivial) (kL4 rfl rfl rfl rfl trivial)))))
 refine xpF rfl (xmf rfl (xf 2 zaG rfl (xli 5 zaf rfl rfl (xmp rfl (xN0 rfl (xf 0 zbk rfl (xf 0 zaq rfl (xli 0 zaf rfl rfl ?_))))))))
 refine TL.geq rfl rfl rfl rfl (fun q6=>?_) (fun q6=>?_)
 refine xpH rfl (TL.done (TQ.then (TC.condT rfl (TC.exit (TQ.thenExit (TQ.blockHere (TQ.then (TC.region ?_))))))))
 refine TL.add (((i+1:Nat):Int)) rfl rfl (wrN (by omega)) rfl rfl (xmi rfl (TL.done (TQ.roundK ((i+1,σ1,g1)) ⟨⟨(show i+1≤n by omega),hW1,zay hG1 (hW1.skip hl (fun hv=>by first | (exfalso; obtain ⟨v1,v2,v3,v4,v5⟩:=hv; omega) | exact ⟨fun ⟨h1,h2,h3⟩=>by first | omega | simp_all,fun ⟨h1,h2⟩=>by first | omega | simp_all⟩)).symm,hR1⟩,(show n - (i+1)<n - i by omega)⟩ ⟨rfl,trivial⟩ ⟨rfl,trivial⟩ (kE4 rfl rfl rfl rfl trivial) (kL4 rfl rfl rfl rfl trivial))))
 refine xpF rfl (dF rfl (xf 0 zaE rfl (xf 0 zaj rfl (xf 6 zao rfl (xL4 4 zaM rfl rfl (xf 1 zaH rfl (xli 5 zaf rfl rfl (xf 2 zaG rfl ?_))))))))
 refine xli 5 zaf rfl rfl (TL.callD [1] [1] (zgb zbl hl) ⟨rfl,rfl,rfl,trivial⟩ ⟨rfl,trivial⟩ ziw rfl rfl rfl rfl rfl trivial (xmu rfl (xei rfl rfl (TL.ext (.bool _) rfl rfl rfl rfl (TL.ext (.bool _) rfl rfl rfl rfl (xai rfl (xab rfl (xab rfl ?_))))))))
 refine dK (sA (xf 0 zbe rfl (xli 5 zaf rfl rfl (TL.eql rfl rfl rfl rfl (fun q7=>?_) (fun q7=>?_)))))
 refine xmt rfl (xmb rfl (TL.cases rfl (fun q8=>?_) (fun q8=>?_)))
 refine xnt rfl (xpG rfl (xaf rfl (TL.done (TQ.then (TC.condF rfl (sA (xf 0 zbe rfl (xli 5 zaf rfl rfl ?_))))))))
 refine TL.eql rfl rfl rfl rfl (fun q9=>?_) (fun q9=>?_)
 refine xmt rfl (xmb rfl (TL.cases rfl (fun q10=>?_) (fun q10=>?_)))
 refine xpT rfl (xat rfl (TL.done (TQ.then (TC.condT rfl (TC.region (xL10 4 zaL rfl rfl (xmi rfl ?_)))))))
 obtain ⟨t2,b2,o2,σ2,g2,hdel,hW2,hG2,hR2⟩:=hW1.delS hl hp ht ⟨by omega,by omega,by omega,by omega,by omega⟩ (by assumption) (by assumption)
 refine TL.callD [1] [1] (zcC zbl hl hdel) ⟨rfl,rfl,trivial⟩ ⟨rfl,trivial⟩ zg4 rfl rfl rfl rfl rfl trivial (TL.done (TQ.inBlock (TQ.inBlock (TQ.then (TC.region (TL.add (((i+1:Nat):Int)) rfl rfl (wrN (by omega)) rfl rfl (xmi rfl (TL.done ?_))))))))
 refine TQ.roundK ((i+1,σ2,g2)) ⟨⟨(show i+1≤n by omega),hW2,zay hG1 hG2,hR1.trans hR2⟩,(show n - (i+1)<n - i by omega)⟩ ⟨rfl,trivial⟩ ⟨rfl,trivial⟩ (kE4 rfl rfl rfl rfl trivial) (kL4 rfl rfl rfl rfl trivial)
 refine xpG rfl (xaf rfl (TL.done (TQ.then (TC.condF rfl (TC.skip (TQ.inBlock (TQ.inBlock (TQ.then ?_))))))))
 refine TC.region (TL.add (((i+1:Nat):Int)) rfl rfl (wrN (by omega)) rfl rfl (xmi rfl (TL.done (TQ.roundK ((i+1,σ1,g1)) ⟨⟨(show i+1≤n by omega),hW1,zay hG1 (hW1.skip hl (fun hv=>by first | (exfalso; obtain ⟨v1,v2,v3,v4,v5⟩:=hv; omega) | exact ⟨fun ⟨h1,h2,h3⟩=>by first | omega | simp_all,fun ⟨h1,h2⟩=>by first | omega | simp_all⟩)).symm,hR1⟩,(show n - (i+1)<n - i by omega)⟩ ⟨rfl,trivial⟩ ⟨rfl,trivial⟩ (kE4 rfl rfl rfl rfl trivial) (kL4 rfl rfl rfl rfl trivial)))))
 refine xmf rfl (xo rfl (xpF rfl (xaf rfl (TL.done (TQ.then (TC.condF rfl (TC.skip (TQ.inBlock ?_))))))))
 refine TQ.inBlock (TQ.then (TC.region (TL.add (((i+1:Nat):Int)) rfl rfl (wrN (by omega)) rfl rfl (xmi rfl (TL.done (TQ.roundK ((i+1,σ1,g1)) ⟨⟨(show i+1≤n by omega),hW1,zay hG1 (hW1.skip hl (fun hv=>by first | (exfalso; obtain ⟨v1,v2,v3,v4,v5⟩:=hv; omega) | exact ⟨fun ⟨h1,h2,h3⟩=>by first | omega | simp_all,fun ⟨h1,h2⟩=>by first | omega | simp_all⟩)).symm,hR1⟩,(show n - (i+1)<n - i by omega)⟩ ⟨rfl,trivial⟩ ⟨rfl,trivial⟩ (kE4 rfl rfl rfl rfl trivial) (kL4 rfl rfl rfl rfl trivial)))))))
 refine xnf rfl (xpT rfl (xat rfl (dT rfl (xmp rfl (xL10 4 zaL rfl rfl (TL.callD [0,1] [0,1] (zga hl (hW1.edges hl)) ⟨rfl,rfl,trivial⟩ ⟨rfl,rfl,trivial⟩ zmr rfl rfl rfl rfl rfl trivial (xai rfl (dA ?_))))))))
 refine xmi rfl (TL.geq rfl rfl rfl rfl (fun q9=>?_) (fun q9=>?_))
 refine TL.done (TQ.then (TC.condT rfl (TC.region (xL10 4 zaL rfl rfl (xmi rfl (xf 1 zaH rfl (xli 5 zaf rfl rfl (xf 2 zaG rfl ?_))))))))
 refine xli 5 zaf rfl rfl ?_
 obtain ⟨t2,σ2,g2,hins,hW2,hG2,hR2⟩:=hW1.insS hl hp ht ⟨by omega,by omega,by omega,by omega,by omega⟩ (by assumption) (by assumption) (by assumption)
 refine TL.callD [1] [1] (zfe zbl hl hins) ⟨rfl,rfl,rfl,rfl,trivial⟩ ⟨rfl,trivial⟩ zms rfl rfl rfl rfl rfl trivial (TL.done (TQ.inBlock (TQ.inBlock (TQ.then (TC.region (TL.add (((i+1:Nat):Int)) rfl rfl (wrN (by omega)) rfl rfl (xmi rfl (TL.done ?_))))))))
 refine TQ.roundK ((i+1,σ2,g2)) ⟨⟨(show i+1≤n by omega),hW2,zay hG1 hG2,hR1.trans hR2⟩,(show n - (i+1)<n - i by omega)⟩ ⟨rfl,trivial⟩ ⟨rfl,trivial⟩ (kE4 rfl rfl rfl rfl trivial) (kL4 rfl rfl rfl rfl trivial)
 refine TL.done (TQ.then (TC.condF rfl (TC.skip (TQ.inBlock (TQ.inBlock (TQ.then (TC.region (TL.add (((i+1:Nat):Int)) rfl rfl (wrN (by omega)) rfl rfl ?_))))))))
 refine xmi rfl (TL.done (TQ.roundK ((i+1,σ1,g1)) ⟨⟨(show i+1≤n by omega),hW1,zay hG1 (hW1.skip hl (fun hv=>by first | (exfalso; obtain ⟨v1,v2,v3,v4,v5⟩:=hv; omega) | exact ⟨fun ⟨h1,h2,h3⟩=>by first | omega | simp_all,fun ⟨h1,h2⟩=>by first | omega | simp_all⟩)).symm,hR1⟩,(show n - (i+1)<n - i by omega)⟩ ⟨rfl,trivial⟩ ⟨rfl,trivial⟩ (kE4 rfl rfl rfl rfl trivial) (kL4 rfl rfl rfl rfl trivial)))
 refine xmf rfl (xo rfl (xo rfl (xpF rfl (xaf rfl (TL.done (TQ.then (TC.condF rfl (sA ?_))))))))
 refine xf 0 zbe rfl (xli 5 zaf rfl rfl (TL.eql rfl rfl rfl rfl (fun q8=>?_) (fun q8=>?_)))
 refine xmt rfl (xmb rfl (TL.cases rfl (fun q9=>?_) (fun q9=>?_)))
 refine xpT rfl (xat rfl (TL.done (TQ.then (TC.condT rfl (TC.region (xL10 4 zaL rfl rfl (xmi rfl ?_)))))))
 obtain ⟨t2,b2,o2,σ2,g2,hdel,hW2,hG2,hR2⟩:=hW1.delS hl hp ht ⟨by omega,by omega,by omega,by omega,by omega⟩ (by assumption) (by assumption)
 refine TL.callD [1] [1] (zcC zbl hl hdel) ⟨rfl,rfl,trivial⟩ ⟨rfl,trivial⟩ zg4 rfl rfl rfl rfl rfl trivial (TL.done (TQ.inBlock (TQ.inBlock (TQ.then (TC.region (TL.add (((i+1:Nat):Int)) rfl rfl (wrN (by omega)) rfl rfl (xmi rfl (TL.done ?_))))))))
 refine TQ.roundK ((i+1,σ2,g2)) ⟨⟨(show i+1≤n by omega),hW2,zay hG1 hG2,hR1.trans hR2⟩,(show n - (i+1)<n - i by omega)⟩ ⟨rfl,trivial⟩ ⟨rfl,trivial⟩ (kE4 rfl rfl rfl rfl trivial) (kL4 rfl rfl rfl rfl trivial)
 refine xpG rfl (xaf rfl (TL.done (TQ.then (TC.condF rfl (TC.skip (TQ.inBlock (TQ.inBlock (TQ.then ?_))))))))
 refine TC.region (TL.add (((i+1:Nat):Int)) rfl rfl (wrN (by omega)) rfl rfl (xmi rfl (TL.done (TQ.roundK ((i+1,σ1,g1)) ⟨⟨(show i+1≤n by omega),hW1,zay hG1 (hW1.skip hl (fun hv=>by first | (exfalso; obtain ⟨v1,v2,v3,v4,v5⟩:=hv; omega) | exact ⟨fun ⟨h1,h2,h3⟩=>by first | omega | simp_all,fun ⟨h1,h2⟩=>by first | omega | simp_all⟩)).symm,hR1⟩,(show n - (i+1)<n - i by omega)⟩ ⟨rfl,trivial⟩ ⟨rfl,trivial⟩ (kE4 rfl rfl rfl rfl trivial) (kL4 rfl rfl rfl rfl trivial)))))
 refine xmf rfl (xo rfl (xpF rfl (xaf rfl (TL.done (TQ.then (TC.condF rfl (TC.skip (TQ.inBlock ?_))))))))
 refine TQ.inBlock (TQ.then (TC.region (TL.add (((i+1:Nat):Int)) rfl rfl (wrN (by omega)) rfl rfl (xmi rfl (TL.done (TQ.roundK ((i+1,σ1,g1)) ⟨⟨(show i+1≤n by omega),hW1,zay hG1 (hW1.skip hl (fun hv=>by first | (exfalso; obtain ⟨v1,v2,v3,v4,v5⟩:=hv; omega) | exact ⟨fun ⟨h1,h2,h3⟩=>by first | omega | simp_all,fun ⟨h1,h2⟩=>by first | omega | simp_all⟩)).symm,hR1⟩,(show n - (i+1)<n - i by omega)⟩ ⟨rfl,trivial⟩ ⟨rfl,trivial⟩ (kE4 rfl rfl rfl rfl trivial) (kL4 rfl rfl rfl rfl trivial)))))))
 refine dS (TC.condF rfl (TC.exit (TQ.thenExit (TQ.thenExit (TQ.blockHere ?_)))))
 refine FQ.end0 (Bs:=[_,_,A]) [0,1,2] rfl rfl ⟨rfl,rfl,rfl,trivial⟩ ?_
 obtain rfl:i=n:=by omega
 exact ⟨rfl,_,_,rfl,hW1,hG1,hR1⟩
 refine TL.alloc 6 (cs:=#[.int .i64 0,.int .i64 0,.int .i64 0,.nilIface,.int .i64 0,.int .i64 0,.int .i64 0,.int .i64 0,.int .i64 0,.nilIface]) ziu rfl rfl rfl (fun _=>(kL2 rfl rfl trivial)) (fun bk6=>(TL.tree (TT.fin (TL.callD [] [] (zhC (p:=p)) ⟨rfl,rfl,rfl,trivial⟩ trivial zmw rfl rfl rfl rfl rfl (kL2 rfl rfl trivial) (TL.stW 6 10 [_,_,_,_,_,_,_,_,_,_] rfl rfl rfl rfl rfl rfl zaL rfl rfl (kL2 rfl rfl trivial) (dA (xms rfl (xz zaZ rfl (xmi rfl (dK ?_))))))))))
 refine TC.loopK (X:=Nat×M×G) [0,6,25,26] [0,2,3,6] (fun ⟨i,σ1,g1⟩=>[(27,.int .i64 ((i:Nat):Int))]) (fun ⟨i,σ1,g1⟩=>[(1,zaF ab mb 140 71 (σ1))]) (fun ⟨i,σ1,g1⟩=>i≤n∧Writ l pr p par0 ver0 σ1 g1∧GA.of g1=zcN l (GA.of g) f i∧Rch l p σ σ1) (fun ⟨i,σ1,g1⟩=>n - i) ((0,σ,g)) ⟨Nat.zero_le _,hW,rfl,.refl⟩ ⟨rfl,trivial⟩ ⟨rfl,trivial⟩ (fun y hI=>?_)
 obtain ⟨i,σ1,g1⟩:=y
 obtain ⟨hi,hW1,hG1,hR1⟩:=hI
 replace hR1:Rch l p σ σ1:=hR1
 replace hi:i≤n:=hi
 replace hW1:Writ l pr p par0 ver0 σ1 g1:=hW1
 replace hG1:GA.of g1=zcN l (GA.of g) f i:=hG1
 refine TC.sub (env':=[(27,_),(0,_),(6,_),(25,_),(26,_)]) (L':=[(1,_),(0,_),(2,_),(3,_),(6,_)]) ⟨rfl,rfl,rfl,rfl,rfl,trivial⟩ ⟨rfl,rfl,rfl,rfl,rfl,trivial⟩ (sA (TL.lss rfl rfl rfl rfl (fun q1=>?_) (fun q1=>?_)))
 refine dS (TC.condT rfl (TC.skip (TQ.then (TC.seq (TC.block (sA (TL.iaO rfl ha rfl zaZ (by omega) rfl rfl (TL.ldRx 2 [_,_,_] rfl rfl hA (by omega) rfl zde rfl rfl ?_))))))))
 refine TL.alloc 7 (cs:=#[.int .i64 0,.int .i64 0,.int .i64 0]) zjm rfl rfl rfl (fun _=>trivial) (fun bk7=>(TL.stW 7 3 [_,_,_] rfl rfl rfl rfl rfl rfl zde rfl rfl trivial (dS (TC.seq (TC.draw [(0,true),(1,true),(2,true),(3,true),(4,true),(5,true),(6,true),(7,true),(8,true),(9,true),(10,true),(11,true),(12,true),(13,true),(14,true),(15,true),(16,true),(17,true),(18,true),(19,true),(20,true),(21,true),(22,true),(23,true),(24,true),(25,true),(26,true),(27,true),(28,true),(29,true),(30,true),(31,true),(32,true),(33,true),(34,true)] [0,7] fc_m (by kernel_rfl) (xf 1 zaH rfl (xli 7 zaf rfl rfl ?_)))))))
 refine xf 2 zaG rfl (xli 7 zaf rfl rfl (TL.eql rfl rfl rfl rfl (fun q2=>?_) (fun q2=>?_)))
 refine xmt rfl (xo rfl (xo rfl (xo rfl (xpT rfl (xmt rfl (xo rfl (xo rfl (xo rfl ?_))))))))
 refine xo rfl (xo rfl (xo rfl (xo rfl (xo rfl (xpT rfl (xmt rfl (xo rfl (xo rfl ?_))))))))
 refine xo rfl (xpT rfl (xmt rfl (xo rfl (xo rfl (xo rfl (xo rfl (xo rfl (xo rfl ?_))))))))
 refine xo rfl (xo rfl (xpT rfl (TL.done (TQ.then (TC.condT rfl (TC.exit (TQ.thenExit (TQ.blockHere ?_))))))))
 refine TQ.then (TC.region (TL.add (((i+1:Nat):Int)) rfl rfl (wrN (by omega)) rfl rfl (xmi rfl (TL.done (TQ.roundK ((i+1,σ1,g1)) ⟨⟨(show i+1≤n by omega),hW1,zay hG1 (hW1.skip hl (fun hv=>by first | (exfalso; obtain ⟨v1,v2,v3,v4,v5⟩:=hv; omega) | exact ⟨fun ⟨h1,h2,h3⟩=>by first | omega | simp_all,fun ⟨h1,h2⟩=>by first | omega | simp_all⟩)).symm,hR1⟩,(show n - (i+1)<n - i by omega)⟩ ⟨rfl,trivial⟩ ⟨rfl,trivial⟩ (kE4 rfl rfl rfl rfl trivial) (kL4 rfl rfl rfl rfl trivial))))))
 refine xmf rfl (xf 1 zaH rfl (xli 7 zaf rfl rfl (TL.lss rfl rfl rfl rfl (fun q3=>?_) (fun q3=>?_))))
 refine xpH rfl (xmt rfl (xo rfl (xo rfl (xo rfl (xo rfl (xo rfl (xo rfl (xo rfl ?_))))))))
 refine xo rfl (xpT rfl (xmt rfl (xo rfl (xo rfl (xo rfl (xpT rfl (xmt rfl (xo rfl ?_))))))))
 refine xo rfl (xo rfl (xo rfl (xo rfl (xo rfl (xo rfl (xo rfl (xpT rfl (TL.done ?_))))))))
 refine TQ.then (TC.condT rfl (TC.exit (TQ.thenExit (TQ.blockHere (TQ.then (TC.region (TL.add (((i+1:Nat):Int)) rfl rfl (wrN (by omega)) rfl rfl (xmi rfl ?_))))))))
 refine TL.done (TQ.roundK ((i+1,σ1,g1)) ⟨⟨(show i+1≤n by omega),hW1,zay hG1 (hW1.skip hl (fun hv=>by first | (exfalso; obtain ⟨v1,v2,v3,v4,v5⟩:=hv; omega) | exact ⟨fun ⟨h1,h2,h3⟩=>by first | omega | simp_all,fun ⟨h1,h2⟩=>by first | omega | simp_all⟩)).symm,hR1⟩,(show n - (i+1)<n - i by omega)⟩ ⟨rfl,trivial⟩ ⟨rfl,trivial⟩ (kE4 rfl rfl rfl rfl trivial) (kL4 rfl rfl rfl rfl trivial))
 refine xpF rfl (xmf rfl (xf 1 zaH rfl (xli 7 zaf rfl rfl (xmp rfl (xN0 rfl (xf 0 zbk rfl (xf 0 zaq rfl (xli 0 zaf rfl rfl ?_))))))))
 refine TL.geq rfl rfl rfl rfl (fun q4=>?_) (fun q4=>?_)
 refine xpH rfl (xmt rfl (xo rfl (xo rfl (xo rfl (xpT rfl (xmt rfl (xo rfl (xo rfl ?_))))))))
 refine xo rfl (xo rfl (xo rfl (xo rfl (xo rfl (xo rfl (xpT rfl (TL.done (TQ.then ?_))))))))
 refine TC.condT rfl (TC.exit (TQ.thenExit (TQ.blockHere (TQ.then (TC.region (TL.add (((i+1:Nat):Int)) rfl rfl (wrN (by omega)) rfl rfl (xmi rfl (TL.done ?_))))))))
 refine TQ.roundK ((i+1,σ1,g1)) ⟨⟨(show i+1≤n by omega),hW1,zay hG1 (hW1.skip hl (fun hv=>by first | (exfalso; obtain ⟨v1,v2,v3,v4,v5⟩:=hv; omega) | exact ⟨fun ⟨h1,h2,h3⟩=>by first | omega | simp_all,fun ⟨h1,h2⟩=>by first | omega | simp_all⟩)).symm,hR1⟩,(show n - (i+1)<n - i by omega)⟩ ⟨rfl,trivial⟩ ⟨rfl,trivial⟩ (kE4 rfl rfl rfl rfl trivial) (kL4 rfl rfl rfl rfl trivial)
 refine xpF rfl (xmf rfl (xf 2 zaG rfl (xli 7 zaf rfl rfl (TL.lss rfl rfl rfl rfl (fun q5=>?_) (fun q5=>?_)))))
 refine xpH rfl (xmt rfl (xo rfl (xo rfl (xo rfl (xo rfl (xo rfl (xo rfl (xo rfl ?_))))))))
 refine xo rfl (xpT rfl (TL.done (TQ.then (TC.condT rfl (TC.exit (TQ.thenExit (TQ.blockHere (TQ.then ?_))))))))
 refine TC.region (TL.add (((i+1:Nat):Int)) rfl rfl (wrN (by omega)) rfl rfl (xmi rfl (TL.done (TQ.roundK ((i+1,σ1,g1)) ⟨⟨(show i+1≤n by omega),hW1,zay hG1 (hW1.skip hl (fun hv=>by first | (exfalso; obtain ⟨v1,v2,v3,v4,v5⟩:=hv; omega) | exact ⟨fun ⟨h1,h2,h3⟩=>by first | omega | simp_all,fun ⟨h1,h2⟩=>by first | omega | simp_all⟩)).symm,hR1⟩,(show n - (i+1)<n - i by omega)⟩ ⟨rfl,trivial⟩ ⟨rfl,trivial⟩ (kE4 rfl rfl rfl rfl trivial) (kL4 rfl rfl rfl rfl trivial)))))
 refine xpF rfl (xmf rfl (xf 2 zaG rfl (xli 7 zaf rfl rfl (xmp rfl (xN0 rfl (xf 0 zbk rfl (xf 0 zaq rfl (xli 0 zaf rfl rfl ?_))))))))
 refine TL.geq rfl rfl rfl rfl (fun q6=>?_) (fun q6=>?_)
 refine xpH rfl (TL.done (TQ.then (TC.condT rfl (TC.exit (TQ.thenExit (TQ.blockHere (TQ.then (TC.region ?_))))))))
 refine TL.add (((i+1:Nat):Int)) rfl rfl (wrN (by omega)) rfl rfl (xmi rfl (TL.done (TQ.roundK ((i+1,σ1,g1)) ⟨⟨(show i+1≤n by omega),hW1,zay hG1 (hW1.skip hl (fun hv=>by first | (exfalso; obtain ⟨v1,v2,v3,v4,v5⟩:=hv; omega) | exact ⟨fun ⟨h1,h2,h3⟩=>by first | omega | simp_all,fun ⟨h1,h2⟩=>by first | omega | simp_all⟩)).symm,hR1⟩,(show n - (i+1)<n - i by omega)⟩ ⟨rfl,trivial⟩ ⟨rfl,trivial⟩ (kE4 rfl rfl rfl rfl trivial) (kL4 rfl rfl rfl rfl trivial))))
 refine xpF rfl (dF rfl (xf 0 zaE rfl (xf 0 zaj rfl (xf 6 zao rfl (xL4 6 zaM rfl rfl (xf 1 zaH rfl (xli 7 zaf rfl rfl (xf 2 zaG rfl ?_))))))))
 refine xli 7 zaf rfl rfl (TL.callD [1] [1] (zgb zbl hl) ⟨rfl,rfl,rfl,trivial⟩ ⟨rfl,trivial⟩ ziw rfl rfl rfl rfl rfl trivial (xmu rfl (xei rfl rfl (TL.ext (.bool _) rfl rfl rfl rfl (TL.ext (.bool _) rfl rfl rfl rfl (xai rfl (xab rfl (xab rfl ?_))))))))
 refine dK (sA (xf 0 zbe rfl (xli 7 zaf rfl rfl (TL.eql rfl rfl rfl rfl (fun q7=>?_) (fun q7=>?_)))))
 refine xmt rfl (xmb rfl (TL.cases rfl (fun q8=>?_) (fun q8=>?_)))
 refine xnt rfl (xpG rfl (xaf rfl (TL.done (TQ.then (TC.condF rfl (sA (xf 0 zbe rfl (xli 7 zaf rfl rfl ?_))))))))
 refine TL.eql rfl rfl rfl rfl (fun q9=>?_) (fun q9=>?_)
 refine xmt rfl (xmb rfl (TL.cases rfl (fun q10=>?_) (fun q10=>?_)))
 refine xpT rfl (xat rfl (TL.done (TQ.then (TC.condT rfl (TC.region (xL10 6 zaL rfl rfl (xmi rfl ?_)))))))
 obtain ⟨t2,b2,o2,σ2,g2,hdel,hW2,hG2,hR2⟩:=hW1.delS hl hp ht ⟨by omega,by omega,by omega,by omega,by omega⟩ (by assumption) (by assumption)
 refine TL.callD [1] [1] (zcC zbl hl hdel) ⟨rfl,rfl,trivial⟩ ⟨rfl,trivial⟩ zg4 rfl rfl rfl rfl rfl trivial (TL.done (TQ.inBlock (TQ.inBlock (TQ.then (TC.region (TL.add (((i+1:Nat):Int)) rfl rfl (wrN (by omega)) rfl rfl (xmi rfl (TL.done ?_))))))))
 refine TQ.roundK ((i+1,σ2,g2)) ⟨⟨(show i+1≤n by omega),hW2,zay hG1 hG2,hR1.trans hR2⟩,(show n - (i+1)<n - i by omega)⟩ ⟨rfl,trivial⟩ ⟨rfl,trivial⟩ (kE4 rfl rfl rfl rfl trivial) (kL4 rfl rfl rfl rfl trivial)
 refine xpG rfl (xaf rfl (TL.done (TQ.then (TC.condF rfl (TC.skip (TQ.inBlock (TQ.inBlock (TQ.then ?_))))))))
 refine TC.region (TL.add (((i+1:Nat):Int)) rfl rfl (wrN (by omega)) rfl rfl (xmi rfl (TL.done (TQ.roundK ((i+1,σ1,g1)) ⟨⟨(show i+1≤n by omega),hW1,zay hG1 (hW1.skip hl (fun hv=>by first | (exfalso; obtain ⟨v1,v2,v3,v4,v5⟩:=hv; omega) | exact ⟨fun ⟨h1,h2,h3⟩=>by first | omega | simp_all,fun ⟨h1,h2⟩=>by first | omega | simp_all⟩)).symm,hR1⟩,(show n - (i+1)<n - i by omega)⟩ ⟨rfl,trivial⟩ ⟨rfl,trivial⟩ (kE4 rfl rfl rfl rfl trivial) (kL4 rfl rfl rfl rfl trivial)))))
 refine xmf rfl (xo rfl (xpF rfl (xaf rfl (TL.done (TQ.then (TC.condF rfl (TC.skip (TQ.inBlock ?_))))))))
 refine TQ.inBlock (TQ.then (TC.region (TL.add (((i+1:Nat):Int)) rfl rfl (wrN (by omega)) rfl rfl (xmi rfl (TL.done (TQ.roundK ((i+1,σ1,g1)) ⟨⟨(show i+1≤n by omega),hW1,zay hG1 (hW1.skip hl (fun hv=>by first | (exfalso; obtain ⟨v1,v2,v3,v4,v5⟩:=hv; omega) | exact ⟨fun ⟨h1,h2,h3⟩=>by first | omega | simp_all,fun ⟨h1,h2⟩=>by first | omega | simp_all⟩)).symm,hR1⟩,(show n - (i+1)<n - i by omega)⟩ ⟨rfl,trivial⟩ ⟨rfl,trivial⟩ (kE4 rfl rfl rfl rfl trivial) (kL4 rfl rfl rfl rfl trivial)))))))
 refine xnf rfl (xpT rfl (xat rfl (dT rfl (xmp rfl (xL10 6 zaL rfl rfl (TL.callD [0,1] [0,1] (zga hl (hW1.edges hl)) ⟨rfl,rfl,trivial⟩ ⟨rfl,rfl,trivial⟩ zmr rfl rfl rfl rfl rfl trivial (xai rfl (dA ?_))))))))
 refine xmi rfl (TL.geq rfl rfl rfl rfl (fun q9=>?_) (fun q9=>?_))
 refine TL.done (TQ.then (TC.condT rfl (TC.region (xL10 6 zaL rfl rfl (xmi rfl (xf 1 zaH rfl (xli 7 zaf rfl rfl (xf 2 zaG rfl ?_))))))))
 refine xli 7 zaf rfl rfl ?_
 obtain ⟨t2,σ2,g2,hins,hW2,hG2,hR2⟩:=hW1.insS hl hp ht ⟨by omega,by omega,by omega,by omega,by omega⟩ (by assumption) (by assumption) (by assumption)
 refine TL.callD [1] [1] (zfe zbl hl hins) ⟨rfl,rfl,rfl,rfl,trivial⟩ ⟨rfl,trivial⟩ zms rfl rfl rfl rfl rfl trivial (TL.done (TQ.inBlock (TQ.inBlock (TQ.then (TC.region (TL.add (((i+1:Nat):Int)) rfl rfl (wrN (by omega)) rfl rfl (xmi rfl (TL.done ?_))))))))
 refine TQ.roundK ((i+1,σ2,g2)) ⟨⟨(show i+1≤n by omega),hW2,zay hG1 hG2,hR1.trans hR2⟩,(show n - (i+1)<n - i by omega)⟩ ⟨rfl,trivial⟩ ⟨rfl,trivial⟩ (kE4 rfl rfl rfl rfl trivial) (kL4 rfl rfl rfl rfl trivial)
 refine TL.done (TQ.then (TC.condF rfl (TC.skip (TQ.inBlock (TQ.inBlock (TQ.then (TC.region (TL.add (((i+1:Nat):Int)) rfl rfl (wrN (by omega)) rfl rfl ?_))))))))
 refine xmi rfl (TL.done (TQ.roundK ((i+1,σ1,g1)) ⟨⟨(show i+1≤n by omega),hW1,zay hG1 (hW1.skip hl (fun hv=>by first | (exfalso; obtain ⟨v1,v2,v3,v4,v5⟩:=hv; omega) | exact ⟨fun ⟨h1,h2,h3⟩=>by first | omega | simp_all,fun ⟨h1,h2⟩=>by first | omega | simp_all⟩)).symm,hR1⟩,(show n - (i+1)<n - i by omega)⟩ ⟨rfl,trivial⟩ ⟨rfl,trivial⟩ (kE4 rfl rfl rfl rfl trivial) (kL4 rfl rfl rfl rfl trivial)))
 refine xmf rfl (xo rfl (xo rfl (xpF rfl (xaf rfl (TL.done (TQ.then (TC.condF rfl (sA ?_))))))))
 refine xf 0 zbe rfl (xli 7 zaf rfl rfl (TL.eql rfl rfl rfl rfl (fun q8=>?_) (fun q8=>?_)))
 refine xmt rfl (xmb rfl (TL.cases rfl (fun q9=>?_) (fun q9=>?_)))
 refine xpT rfl (xat rfl (TL.done (TQ.then (TC.condT rfl (TC.region (xL10 6 zaL rfl rfl (xmi rfl ?_)))))))
 obtain ⟨t2,b2,o2,σ2,g2,hdel,hW2,hG2,hR2⟩:=hW1.delS hl hp ht ⟨by omega,by omega,by omega,by omega,by omega⟩ (by assumption) (by assumption)
 refine TL.callD [1] [1] (zcC zbl hl hdel) ⟨rfl,rfl,trivial⟩ ⟨rfl,trivial⟩ zg4 rfl rfl rfl rfl rfl trivial (TL.done (TQ.inBlock (TQ.inBlock (TQ.then (TC.region (TL.add (((i+1:Nat):Int)) rfl rfl (wrN (by omega)) rfl rfl (xmi rfl (TL.done ?_))))))))
 refine TQ.roundK ((i+1,σ2,g2)) ⟨⟨(show i+1≤n by omega),hW2,zay hG1 hG2,hR1.trans hR2⟩,(show n - (i+1)<n - i by omega)⟩ ⟨rfl,trivial⟩ ⟨rfl,trivial⟩ (kE4 rfl rfl rfl rfl trivial) (kL4 rfl rfl rfl rfl trivial)
 refine xpG rfl (xaf rfl (TL.done (TQ.then (TC.condF rfl (TC.skip (TQ.inBlock (TQ.inBlock (TQ.then ?_))))))))
 refine TC.region (TL.add (((i+1:Nat):Int)) rfl rfl (wrN (by omega)) rfl rfl (xmi rfl (TL.done (TQ.roundK ((i+1,σ1,g1)) ⟨⟨(show i+1≤n by omega),hW1,zay hG1 (hW1.skip hl (fun hv=>by first | (exfalso; obtain ⟨v1,v2,v3,v4,v5⟩:=hv; omega) | exact ⟨fun ⟨h1,h2,h3⟩=>by first | omega | simp_all,fun ⟨h1,h2⟩=>by first | omega | simp_all⟩)).symm,hR1⟩,(show n - (i+1)<n - i by omega)⟩ ⟨rfl,trivial⟩ ⟨rfl,trivial⟩ (kE4 rfl rfl rfl rfl trivial) (kL4 rfl rfl rfl rfl trivial)))))
 refine xmf rfl (xo rfl (xpF rfl (xaf rfl (TL.done (TQ.then (TC.condF rfl (TC.skip (TQ.inBlock ?_))))))))
 refine TQ.inBlock (TQ.then (TC.region (TL.add (((i+1:Nat):Int)) rfl rfl (wrN (by omega)) rfl rfl (xmi rfl (TL.done (TQ.roundK ((i+1,σ1,g1)) ⟨⟨(show i+1≤n by omega),hW1,zay hG1 (hW1.skip hl (fun hv=>by first | (exfalso; obtain ⟨v1,v2,v3,v4,v5⟩:=hv; omega) | exact ⟨fun ⟨h1,h2,h3⟩=>by first | omega | simp_all,fun ⟨h1,h2⟩=>by first | omega | simp_all⟩)).symm,hR1⟩,(show n - (i+1)<n - i by omega)⟩ ⟨rfl,trivial⟩ ⟨rfl,trivial⟩ (kE4 rfl rfl rfl rfl trivial) (kL4 rfl rfl rfl rfl trivial)))))))
 refine dS (TC.condF rfl (TC.exit (TQ.thenExit (TQ.thenExit (TQ.blockHere ?_)))))
 refine FQ.end0 (Bs:=[_,_,A]) [0,1,2] rfl rfl ⟨rfl,rfl,rfl,trivial⟩ ?_
 obtain rfl:i=n:=by omega
 exact ⟨rfl,_,_,rfl,hW1,hG1,hR1⟩
 refine TL.alloc 8 (cs:=#[.int .i64 0,.int .i64 0,.int .i64 0,.nilIface,.int .i64 0,.int .i64 0,.int .i64 0,.int .i64 0,.int .i64 0,.nilIface]) ziu rfl rfl rfl (fun _=>(kL2 rfl rfl trivial)) (fun bk8=>(TL.tree (TT.fin (TL.callD [] [] zcS ⟨rfl,trivial⟩ trivial zfx rfl rfl rfl rfl rfl (kL2 rfl rfl trivial) (TL.miN (v:=(.agg _)) rfl zdL rfl rfl (TL.callD [] [] (zhC (p:=p)) ⟨rfl,rfl,rfl,trivial⟩ trivial zmw rfl rfl rfl rfl rfl (kL2 rfl rfl trivial) (TL.stW 8 10 [_,_,_,_,_,_,_,_,_,_] rfl rfl rfl rfl rfl rfl zaL rfl rfl (kL2 rfl rfl trivial) (dA (xms rfl (xz zaZ rfl ?_))))))))))
 refine xmi rfl (dK (TC.loopK (X:=Nat×M×G) [0,6,25,26] [0,2,3,8] (fun ⟨i,σ1,g1⟩=>[(27,.int .i64 ((i:Nat):Int))]) (fun ⟨i,σ1,g1⟩=>[(1,zaF ab mb 140 71 (σ1))]) (fun ⟨i,σ1,g1⟩=>i≤n∧Writ l pr p par0 ver0 σ1 g1∧GA.of g1=zcN l (GA.of g) f i∧Rch l p σ σ1) (fun ⟨i,σ1,g1⟩=>n - i) ((0,σ,g)) ⟨Nat.zero_le _,hW,rfl,.refl⟩ ⟨rfl,trivial⟩ ⟨rfl,trivial⟩ (fun y hI=>?_)))
 obtain ⟨i,σ1,g1⟩:=y
 obtain ⟨hi,hW1,hG1,hR1⟩:=hI
 replace hR1:Rch l p σ σ1:=hR1
 replace hi:i≤n:=hi
 replace hW1:Writ l pr p par0 ver0 σ1 g1:=hW1
 replace hG1:GA.of g1=zcN l (GA.of g) f i:=hG1
 refine TC.sub (env':=[(27,_),(0,_),(6,_),(25,_),(26,_)]) (L':=[(1,_),(0,_),(2,_),(3,_),(8,_)]) ⟨rfl,rfl,rfl,rfl,rfl,trivial⟩ ⟨rfl,rfl,rfl,rfl,rfl,trivial⟩ (sA (TL.lss rfl rfl rfl rfl (fun q1=>?_) (fun q1=>?_)))
 refine dS (TC.condT rfl (TC.skip (TQ.then (TC.seq (TC.block (sA (TL.iaO rfl ha rfl zaZ (by omega) rfl rfl (TL.ldRx 2 [_,_,_] rfl rfl hA (by omega) rfl zde rfl rfl ?_))))))))
 refine TL.alloc 9 (cs:=#[.int .i64 0,.int .i64 0,.int .i64 0]) zjm rfl rfl rfl (fun _=>trivial) (fun bk9=>(TL.stW 9 3 [_,_,_] rfl rfl rfl rfl rfl rfl zde rfl rfl trivial (dS (TC.seq (TC.draw [(0,true),(1,true),(2,true),(3,true),(4,true),(5,true),(6,true),(7,true),(8,true),(9,true),(10,true),(11,true),(12,true),(13,true),(14,true),(15,true),(16,true),(17,true),(18,true),(19,true),(20,true),(21,true),(22,true),(23,true),(24,true),(25,true),(26,true),(27,true),(28,true),(29,true),(30,true),(31,true),(32,true),(33,true),(34,true)] [0,9] fc_m (by kernel_rfl) (xf 1 zaH rfl (xli 9 zaf rfl rfl ?_)))))))
 refine xf 2 zaG rfl (xli 9 zaf rfl rfl (TL.eql rfl rfl rfl rfl (fun q2=>?_) (fun q2=>?_)))
 refine xmt rfl (xo rfl (xo rfl (xo rfl (xpT rfl (xmt rfl (xo rfl (xo rfl (xo rfl ?_))))))))
 refine xo rfl (xo rfl (xo rfl (xo rfl (xo rfl (xpT rfl (xmt rfl (xo rfl (xo rfl ?_))))))))
 refine xo rfl (xpT rfl (xmt rfl (xo rfl (xo rfl (xo rfl (xo rfl (xo rfl (xo rfl ?_))))))))
 refine xo rfl (xo rfl (xpT rfl (TL.done (TQ.then (TC.condT rfl (TC.exit (TQ.thenExit (TQ.blockHere ?_))))))))
 refine TQ.then (TC.region (TL.add (((i+1:Nat):Int)) rfl rfl (wrN (by omega)) rfl rfl (xmi rfl (TL.done (TQ.roundK ((i+1,σ1,g1)) ⟨⟨(show i+1≤n by omega),hW1,zay hG1 (hW1.skip hl (fun hv=>by first | (exfalso; obtain ⟨v1,v2,v3,v4,v5⟩:=hv; omega) | exact ⟨fun ⟨h1,h2,h3⟩=>by first | omega | simp_all,fun ⟨h1,h2⟩=>by first | omega | simp_all⟩)).symm,hR1⟩,(show n - (i+1)<n - i by omega)⟩ ⟨rfl,trivial⟩ ⟨rfl,trivial⟩ (kE4 rfl rfl rfl rfl trivial) (kL4 rfl rfl rfl rfl trivial))))))
 refine xmf rfl (xf 1 zaH rfl (xli 9 zaf rfl rfl (TL.lss rfl rfl rfl rfl (fun q3=>?_) (fun q3=>?_))))
 refine xpH rfl (xmt rfl (xo rfl (xo rfl (xo rfl (xo rfl (xo rfl (xo rfl (xo rfl ?_))))))))
 refine xo rfl (xpT rfl (xmt rfl (xo rfl (xo rfl (xo rfl (xpT rfl (xmt rfl (xo rfl ?_))))))))
 refine xo rfl (xo rfl (xo rfl (xo rfl (xo rfl (xo rfl (xo rfl (xpT rfl (TL.done ?_))))))))
 refine TQ.then (TC.condT rfl (TC.exit (TQ.thenExit (TQ.blockHere (TQ.then (TC.region (TL.add (((i+1:Nat):Int)) rfl rfl (wrN (by omega)) rfl rfl (xmi rfl ?_))))))))
 refine TL.done (TQ.roundK ((i+1,σ1,g1)) ⟨⟨(show i+1≤n by omega),hW1,zay hG1 (hW1.skip hl (fun hv=>by first | (exfalso; obtain ⟨v1,v2,v3,v4,v5⟩:=hv; omega) | exact ⟨fun ⟨h1,h2,h3⟩=>by first | omega | simp_all,fun ⟨h1,h2⟩=>by first | omega | simp_all⟩)).symm,hR1⟩,(show n - (i+1)<n - i by omega)⟩ ⟨rfl,trivial⟩ ⟨rfl,trivial⟩ (kE4 rfl rfl rfl rfl trivial) (kL4 rfl rfl rfl rfl trivial))
 refine xpF rfl (xmf rfl (xf 1 zaH rfl (xli 9 zaf rfl rfl (xmp rfl (xN0 rfl (xf 0 zbk rfl (xf 0 zaq rfl (xli 0 zaf rfl rfl ?_))))))))
 refine TL.geq rfl rfl rfl rfl (fun q4=>?_) (fun q4=>?_)
 refine xpH rfl (xmt rfl (xo rfl (xo rfl (xo rfl (xpT rfl (xmt rfl (xo rfl (xo rfl ?_))))))))
 refine xo rfl (xo rfl (xo rfl (xo rfl (xo rfl (xo rfl (xpT rfl (TL.done (TQ.then ?_))))))))
 refine TC.condT rfl (TC.exit (TQ.thenExit (TQ.blockHere (TQ.then (TC.region (TL.add (((i+1:Nat):Int)) rfl rfl (wrN (by omega)) rfl rfl (xmi rfl (TL.done ?_))))))))
 refine TQ.roundK ((i+1,σ1,g1)) ⟨⟨(show i+1≤n by omega),hW1,zay hG1 (hW1.skip hl (fun hv=>by first | (exfalso; obtain ⟨v1,v2,v3,v4,v5⟩:=hv; omega) | exact ⟨fun ⟨h1,h2,h3⟩=>by first | omega | simp_all,fun ⟨h1,h2⟩=>by first | omega | simp_all⟩)).symm,hR1⟩,(show n - (i+1)<n - i by omega)⟩ ⟨rfl,trivial⟩ ⟨rfl,trivial⟩ (kE4 rfl rfl rfl rfl trivial) (kL4 rfl rfl rfl rfl trivial)
 refine xpF rfl (xmf rfl (xf 2 zaG rfl (xli 9 zaf rfl rfl (TL.lss rfl rfl rfl rfl (fun q5=>?_) (fun q5=>?_)))))
 refine xpH rfl (xmt rfl (xo rfl (xo rfl (xo rfl (xo rfl (xo rfl (xo rfl (xo rfl ?_))))))))
 refine xo rfl (xpT rfl (TL.done (TQ.then (TC.condT rfl (TC.exit (TQ.thenExit (TQ.blockHere (TQ.then ?_))))))))
 refine TC.region (TL.add (((i+1:Nat):Int)) rfl rfl (wrN (by omega)) rfl rfl (xmi rfl (TL.done (TQ.roundK ((i+1,σ1,g1)) ⟨⟨(show i+1≤n by omega),hW1,zay hG1 (hW1.skip hl (fun hv=>by first | (exfalso; obtain ⟨v1,v2,v3,v4,v5⟩:=hv; omega) | exact ⟨fun ⟨h1,h2,h3⟩=>by first | omega | simp_all,fun ⟨h1,h2⟩=>by first | omega | simp_all⟩)).symm,hR1⟩,(show n - (i+1)<n - i by omega)⟩ ⟨rfl,trivial⟩ ⟨rfl,trivial⟩ (kE4 rfl rfl rfl rfl trivial) (kL4 rfl rfl rfl rfl trivial)))))
 refine xpF rfl (xmf rfl (xf 2 zaG rfl (xli 9 zaf rfl rfl (xmp rfl (xN0 rfl (xf 0 zbk rfl (xf 0 zaq rfl (xli 0 zaf rfl rfl ?_))))))))
 refine TL.geq rfl rfl rfl rfl (fun q6=>?_) (fun q6=>?_)
 refine xpH rfl (TL.done (TQ.then (TC.condT rfl (TC.exit (TQ.thenExit (TQ.blockHere (TQ.then (TC.region ?_))))))))
 refine TL.add (((i+1:Nat):Int)) rfl rfl (wrN (by omega)) rfl rfl (xmi rfl (TL.done (TQ.roundK ((i+1,σ1,g1)) ⟨⟨(show i+1≤n by omega),hW1,zay hG1 (hW1.skip hl (fun hv=>by first | (exfalso; obtain ⟨v1,v2,v3,v4,v5⟩:=hv; omega) | exact ⟨fun ⟨h1,h2,h3⟩=>by first | omega | simp_all,fun ⟨h1,h2⟩=>by first | omega | simp_all⟩)).symm,hR1⟩,(show n - (i+1)<n - i by omega)⟩ ⟨rfl,trivial⟩ ⟨rfl,trivial⟩ (kE4 rfl rfl rfl rfl trivial) (kL4 rfl rfl rfl rfl trivial))))
 refine xpF rfl (dF rfl (xf 0 zaE rfl (xf 0 zaj rfl (xf 6 zao rfl (xL4 8 zaM rfl rfl (xf 1 zaH rfl (xli 9 zaf rfl rfl (xf 2 zaG rfl ?_))))))))
 refine xli 9 zaf rfl rfl (TL.callD [1] [1] (zgb zbl hl) ⟨rfl,rfl,rfl,trivial⟩ ⟨rfl,trivial⟩ ziw rfl rfl rfl rfl rfl trivial (xmu rfl (xei rfl rfl (TL.ext (.bool _) rfl rfl rfl rfl (TL.ext (.bool _) rfl rfl rfl rfl (xai rfl (xab rfl (xab rfl ?_))))))))
 refine dK (sA (xf 0 zbe rfl (xli 9 zaf rfl rfl (TL.eql rfl rfl rfl rfl (fun q7=>?_) (fun q7=>?_)))))
 refine xmt rfl (xmb rfl (TL.cases rfl (fun q8=>?_) (fun q8=>?_)))
 refine xnt rfl (xpG rfl (xaf rfl (TL.done (TQ.then (TC.condF rfl (sA (xf 0 zbe rfl (xli 9 zaf rfl rfl ?_))))))))
 refine TL.eql rfl rfl rfl rfl (fun q9=>?_) (fun q9=>?_)
 refine xmt rfl (xmb rfl (TL.cases rfl (fun q10=>?_) (fun q10=>?_)))
 refine xpT rfl (xat rfl (TL.done (TQ.then (TC.condT rfl (TC.region (xL10 8 zaL rfl rfl (xmi rfl ?_)))))))
 obtain ⟨t2,b2,o2,σ2,g2,hdel,hW2,hG2,hR2⟩:=hW1.delS hl hp ht ⟨by omega,by omega,by omega,by omega,by omega⟩ (by assumption) (by assumption)
 refine TL.callD [1] [1] (zcC zbl hl hdel) ⟨rfl,rfl,trivial⟩ ⟨rfl,trivial⟩ zg4 rfl rfl rfl rfl rfl trivial (TL.done (TQ.inBlock (TQ.inBlock (TQ.then (TC.region (TL.add (((i+1:Nat):Int)) rfl rfl (wrN (by omega)) rfl rfl (xmi rfl (TL.done ?_))))))))
 refine TQ.roundK ((i+1,σ2,g2)) ⟨⟨(show i+1≤n by omega),hW2,zay hG1 hG2,hR1.trans hR2⟩,(show n - (i+1)<n - i by omega)⟩ ⟨rfl,trivial⟩ ⟨rfl,trivial⟩ (kE4 rfl rfl rfl rfl trivial) (kL4 rfl rfl rfl rfl trivial)
 refine xpG rfl (xaf rfl (TL.done (TQ.then (TC.condF rfl (TC.skip (TQ.inBlock (TQ.inBlock (TQ.then ?_))))))))
 refine TC.region (TL.add (((i+1:Nat):Int)) rfl rfl (wrN (by omega)) rfl rfl (xmi rfl (TL.done (TQ.roundK ((i+1,σ1,g1)) ⟨⟨(show i+1≤n by omega),hW1,zay hG1 (hW1.skip hl (fun hv=>by first | (exfalso; obtain ⟨v1,v2,v3,v4,v5⟩:=hv; omega) | exact ⟨fun ⟨h1,h2,h3⟩=>by first | omega | simp_all,fun ⟨h1,h2⟩=>by first | omega | simp_all⟩)).symm,hR1⟩,(show n - (i+1)<n - i by omega)⟩ ⟨rfl,trivial⟩ ⟨rfl,trivial⟩ (kE4 rfl rfl rfl rfl trivial) (kL4 rfl rfl rfl rfl trivial)))))
 refine xmf rfl (xo rfl (xpF rfl (xaf rfl (TL.done (TQ.then (TC.condF rfl (TC.skip (TQ.inBlock ?_))))))))
 refine TQ.inBlock (TQ.then (TC.region (TL.add (((i+1:Nat):Int)) rfl rfl (wrN (by omega)) rfl rfl (xmi rfl (TL.done (TQ.roundK ((i+1,σ1,g1)) ⟨⟨(show i+1≤n by omega),hW1,zay hG1 (hW1.skip hl (fun hv=>by first | (exfalso; obtain ⟨v1,v2,v3,v4,v5⟩:=hv; omega) | exact ⟨fun ⟨h1,h2,h3⟩=>by first | omega | simp_all,fun ⟨h1,h2⟩=>by first | omega | simp_all⟩)).symm,hR1⟩,(show n - (i+1)<n - i by omega)⟩ ⟨rfl,trivial⟩ ⟨rfl,trivial⟩ (kE4 rfl rfl rfl rfl trivial) (kL4 rfl rfl rfl rfl trivial)))))))
 refine xnf rfl (xpT rfl (xat rfl (dT rfl (xmp rfl (xL10 8 zaL rfl rfl (TL.callD [0,1] [0,1] (zga hl (hW1.edges hl)) ⟨rfl,rfl,trivial⟩ ⟨rfl,rfl,trivial⟩ zmr rfl rfl rfl rfl rfl trivial (xai rfl (dA ?_))))))))
 refine xmi rfl (TL.geq rfl rfl rfl rfl (fun q9=>?_) (fun q9=>?_))
 refine TL.done (TQ.then (TC.condT rfl (TC.region (xL10 8 zaL rfl rfl (xmi rfl (xf 1 zaH rfl (xli 9 zaf rfl rfl (xf 2 zaG rfl ?_))))))))
 refine xli 9 zaf rfl rfl ?_
 obtain ⟨t2,σ2,g2,hins,hW2,hG2,hR2⟩:=hW1.insS hl hp ht ⟨by omega,by omega,by omega,by omega,by omega⟩ (by assumption) (by assumption) (by assumption)
 refine TL.callD [1] [1] (zfe zbl hl hins) ⟨rfl,rfl,rfl,rfl,trivial⟩ ⟨rfl,trivial⟩ zms rfl rfl rfl rfl rfl trivial (TL.done (TQ.inBlock (TQ.inBlock (TQ.then (TC.region (TL.add (((i+1:Nat):Int)) rfl rfl (wrN (by omega)) rfl rfl (xmi rfl (TL.done ?_))))))))
 refine TQ.roundK ((i+1,σ2,g2)) ⟨⟨(show i+1≤n by omega),hW2,zay hG1 hG2,hR1.trans hR2⟩,(show n - (i+1)<n - i by omega)⟩ ⟨rfl,trivial⟩ ⟨rfl,trivial⟩ (kE4 rfl rfl rfl rfl trivial) (kL4 rfl rfl rfl rfl trivial)
 refine TL.done (TQ.then (TC.condF rfl (TC.skip (TQ.inBlock (TQ.inBlock (TQ.then (TC.region (TL.add (((i+1:Nat):Int)) rfl rfl (wrN (by omega)) rfl rfl ?_))))))))
 refine xmi rfl (TL.done (TQ.roundK ((i+1,σ1,g1)) ⟨⟨(show i+1≤n by omega),hW1,zay hG1 (hW1.skip hl (fun hv=>by first | (exfalso; obtain ⟨v1,v2,v3,v4,v5⟩:=hv; omega) | exact ⟨fun ⟨h1,h2,h3⟩=>by first | omega | simp_all,fun ⟨h1,h2⟩=>by first | omega | simp_all⟩)).symm,hR1⟩,(show n - (i+1)<n - i by omega)⟩ ⟨rfl,trivial⟩ ⟨rfl,trivial⟩ (kE4 rfl rfl rfl rfl trivial) (kL4 rfl rfl rfl rfl trivial)))
 refine xmf rfl (xo rfl (xo rfl (xpF rfl (xaf rfl (TL.done (TQ.then (TC.condF rfl (sA ?_))))))))
 refine xf 0 zbe rfl (xli 9 zaf rfl rfl (TL.eql rfl rfl rfl rfl (fun q8=>?_) (fun q8=>?_)))
 refine xmt rfl (xmb rfl (TL.cases rfl (fun q9=>?_) (fun q9=>?_)))
 refine xpT rfl (xat rfl (TL.done (TQ.then (TC.condT rfl (TC.region (xL10 8 zaL rfl rfl (xmi rfl ?_)))))))
 obtain ⟨t2,b2,o2,σ2,g2,hdel,hW2,hG2,hR2⟩:=hW1.delS hl hp ht ⟨by omega,by omega,by omega,by omega,by omega⟩ (by assumption) (by assumption)
 refine TL.callD [1] [1] (zcC zbl hl hdel) ⟨rfl,rfl,trivial⟩ ⟨rfl,trivial⟩ zg4 rfl rfl rfl rfl rfl trivial (TL.done (TQ.inBlock (TQ.inBlock (TQ.then (TC.region (TL.add (((i+1:Nat):Int)) rfl rfl (wrN (by omega)) rfl rfl (xmi rfl (TL.done ?_))))))))
 refine TQ.roundK ((i+1,σ2,g2)) ⟨⟨(show i+1≤n by omega),hW2,zay hG1 hG2,hR1.trans hR2⟩,(show n - (i+1)<n - i by omega)⟩ ⟨rfl,trivial⟩ ⟨rfl,trivial⟩ (kE4 rfl rfl rfl rfl trivial) (kL4 rfl rfl rfl rfl trivial)
 refine xpG rfl (xaf rfl (TL.done (TQ.then (TC.condF rfl (TC.skip (TQ.inBlock (TQ.inBlock (TQ.then ?_))))))))
 refine TC.region (TL.add (((i+1:Nat):Int)) rfl rfl (wrN (by omega)) rfl rfl (xmi rfl (TL.done (TQ.roundK ((i+1,σ1,g1)) ⟨⟨(show i+1≤n by omega),hW1,zay hG1 (hW1.skip hl (fun hv=>by first | (exfalso; obtain ⟨v1,v2,v3,v4,v5⟩:=hv; omega) | exact ⟨fun ⟨h1,h2,h3⟩=>by first | omega | simp_all,fun ⟨h1,h2⟩=>by first | omega | simp_all⟩)).symm,hR1⟩,(show n - (i+1)<n - i by omega)⟩ ⟨rfl,trivial⟩ ⟨rfl,trivial⟩ (kE4 rfl rfl rfl rfl trivial) (kL4 rfl rfl rfl rfl trivial)))))
 refine xmf rfl (xo rfl (xpF rfl (xaf rfl (TL.done (TQ.then (TC.condF rfl (TC.skip (TQ.inBlock ?_))))))))
 refine TQ.inBlock (TQ.then (TC.region (TL.add (((i+1:Nat):Int)) rfl rfl (wrN (by omega)) rfl rfl (xmi rfl (TL.done (TQ.roundK ((i+1,σ1,g1)) ⟨⟨(show i+1≤n by omega),hW1,zay hG1 (hW1.skip hl (fun hv=>by first | (exfalso; obtain ⟨v1,v2,v3,v4,v5⟩:=hv; omega) | exact ⟨fun ⟨h1,h2,h3⟩=>by first | omega | simp_all,fun ⟨h1,h2⟩=>by first | omega | simp_all⟩)).symm,hR1⟩,(show n - (i+1)<n - i by omega)⟩ ⟨rfl,trivial⟩ ⟨rfl,trivial⟩ (kE4 rfl rfl rfl rfl trivial) (kL4 rfl rfl rfl rfl trivial)))))))
 refine dS (TC.condF rfl (TC.exit (TQ.thenExit (TQ.thenExit (TQ.blockHere ?_)))))
 refine FQ.end0 (Bs:=[_,_,A]) [0,1,2] rfl rfl ⟨rfl,rfl,rfl,trivial⟩ ?_
 obtain rfl:i=n:=by omega
 exact ⟨rfl,_,_,rfl,hW1,hG1,hR1⟩
theorem ziY {V S T:Int}  : FnD Tryz.prog 72 [.agg #[.int .i64 V,.int .i64 S,.int .i64 T]] [] (.bool (decide (okL V S T))) []:=by
 refine Fn.enter (Tryz.func72) rfl rfl (fun w0 R=>?_)
 refine sA (xB 0 rfl (fun bk0=>(xaf rfl (dA (xf 0 zgj rfl (xli 0 zaf rfl rfl (TL.geq rfl rfl rfl rfl (fun q1=>?_) (fun q1=>?_))))))))
 refine xmt rfl (xf 0 zgj rfl (xli 0 zaf rfl rfl (TL.leq rfl rfl rfl rfl (fun q2=>?_) (fun q2=>?_))))
 refine xpT rfl (xmt rfl (xf 1 zgi rfl (xli 0 zaf rfl rfl (TL.geq rfl rfl rfl rfl (fun q3=>?_) (fun q3=>?_)))))
 refine xpT rfl (xmt rfl (xf 1 zgi rfl (xli 0 zaf rfl rfl (TL.leq rfl rfl rfl rfl (fun q4=>?_) (fun q4=>?_)))))
 refine xpT rfl (xmt rfl (xf 2 zgh rfl (xli 0 zaf rfl rfl (TL.geq rfl rfl rfl rfl (fun q5=>?_) (fun q5=>?_)))))
 refine xpT rfl (xmt rfl (xf 2 zgh rfl (xli 0 zaf rfl rfl (TL.leqV rfl rfl rfl rfl (TL.pickT (.bool _) rfl rfl rfl rfl (xab rfl (dR ?_)))))))
 refine FQ.ret1 (v:=(.bool _)) (Bs:=[]) [] rfl rfl rfl trivial ?_
 first | exact ⟨congrArg Value.bool (by unfold okL; first | (simp [*]; done) | (simp [*]; omega) | (rw [eq_comm,decide_eq_false_iff_not]; omega) | (rw [eq_comm,decide_eq_true_iff]; omega) | (rw [decide_eq_decide]; omega)),rfl⟩
 refine xpG rfl (xmf rfl (xo rfl (xo rfl (xo rfl (xpF rfl (xaf rfl (dR ?_)))))))
 refine FQ.ret1 (v:=(.bool false)) (Bs:=[]) [] rfl rfl rfl trivial ?_
 first | exact ⟨congrArg Value.bool (by unfold okL; first | (simp [*]; done) | (simp [*]; omega) | (rw [eq_comm,decide_eq_false_iff_not]; omega) | (rw [eq_comm,decide_eq_true_iff]; omega) | (rw [decide_eq_decide]; omega)),rfl⟩
 refine xpG rfl (xmf rfl (xo rfl (xo rfl (xo rfl (xpF rfl (xmf rfl (xo rfl (xo rfl ?_))))))))
 refine xo rfl (xpF rfl (xaf rfl (dR ?_)))
 refine FQ.ret1 (v:=(.bool false)) (Bs:=[]) [] rfl rfl rfl trivial ?_
 first | exact ⟨congrArg Value.bool (by unfold okL; first | (simp [*]; done) | (simp [*]; omega) | (rw [eq_comm,decide_eq_false_iff_not]; omega) | (rw [eq_comm,decide_eq_true_iff]; omega) | (rw [decide_eq_decide]; omega)),rfl⟩
 refine xpG rfl (xmf rfl (xo rfl (xo rfl (xo rfl (xpF rfl (xmf rfl (xo rfl (xo rfl ?_))))))))
 refine xo rfl (xpF rfl (xmf rfl (xo rfl (xo rfl (xo rfl (xpF rfl (xaf rfl (dR ?_))))))))
 refine FQ.ret1 (v:=(.bool false)) (Bs:=[]) [] rfl rfl rfl trivial ?_
 first | exact ⟨congrArg Value.bool (by unfold okL; first | (simp [*]; done) | (simp [*]; omega) | (rw [eq_comm,decide_eq_false_iff_not]; omega) | (rw [eq_comm,decide_eq_true_iff]; omega) | (rw [decide_eq_decide]; omega)),rfl⟩
 refine xpG rfl (xmf rfl (xo rfl (xo rfl (xo rfl (xpF rfl (xmf rfl (xo rfl (xo rfl ?_))))))))
 refine xo rfl (xpF rfl (xmf rfl (xo rfl (xo rfl (xo rfl (xpF rfl (xmf rfl (xo rfl ?_))))))))
 refine xo rfl (xo rfl (xpF rfl (xaf rfl (dR ?_))))
 refine FQ.ret1 (v:=(.bool false)) (Bs:=[]) [] rfl rfl rfl trivial ?_
 first | exact ⟨congrArg Value.bool (by unfold okL; first | (simp [*]; done) | (simp [*]; omega) | (rw [eq_comm,decide_eq_false_iff_not]; omega) | (rw [eq_comm,decide_eq_true_iff]; omega) | (rw [decide_eq_decide]; omega)),rfl⟩
 refine xmf rfl (xo rfl (xo rfl (xo rfl (xpF rfl (xmf rfl (xo rfl (xo rfl (xo rfl ?_))))))))
 refine xpF rfl (xmf rfl (xo rfl (xo rfl (xo rfl (xpF rfl (xmf rfl (xo rfl (xo rfl ?_))))))))
 refine xo rfl (xpF rfl (xmf rfl (xo rfl (xo rfl (xo rfl (xpF rfl (xaf rfl (dR ?_))))))))
 refine FQ.ret1 (v:=(.bool false)) (Bs:=[]) [] rfl rfl rfl trivial ?_
 first | exact ⟨congrArg Value.bool (by unfold okL; first | (simp [*]; done) | (simp [*]; omega) | (rw [eq_comm,decide_eq_false_iff_not]; omega) | (rw [eq_comm,decide_eq_true_iff]; omega) | (rw [decide_eq_decide]; omega)),rfl⟩
theorem znP {V S T:Int}  : FnD Tryz.prog 90 [.agg #[.int .i64 V,.int .i64 S,.int .i64 T]] [] (.agg #[.int .i64 V,.int .i64 S,.int .i64 T]) []:=by
 refine Fn.enter (Tryz.func90) rfl rfl (fun w0 R=>?_)
 refine sA (xB 0 rfl (fun bk0=>(TL.alloc 1 (cs:=#[.int .i64 0,.int .i64 0,.int .i64 0]) zmn rfl rfl rfl (fun _=>trivial) (fun bk1=>(dA (xf 0 zaq rfl (xli 0 zaf rfl rfl (xf 1 zba rfl (xli 0 zaf rfl rfl (xf 2 zd0 rfl ?_))))))))))
 refine xli 0 zaf rfl rfl (TL.bld [.int .i64 0,.int .i64 0,.int .i64 0] [(.int _ _),(.int _ _),(.int _ _)] [_,_,_] zmn zpY ⟨rfl,rfl,rfl,trivial⟩ ⟨rfl,rfl⟩ rfl rfl (TL.stW 1 3 [_,_,_] rfl rfl rfl rfl rfl rfl zix rfl rfl trivial (dR ?_)))
 refine FQ.retG (rs:=[.cell 2 123]) [(.agg _)] (Bs:=[]) [] rfl ⟨⟨_,_,_,_,_,1,rfl,rfl,.inr ⟨3,[_,_,_],zix,rfl,rfl⟩⟩,trivial⟩ rfl rfl trivial ?_
 exact ⟨rfl,rfl⟩
theorem zgP {V S T:Int}  {da oa:Option Addr} {dn dc on oc:Nat} {cm:Bool}:FnD Tryz.prog 32 [.agg #[.int .i64 V,.int .i64 S,.int .i64 T,.slice da dn dc,.slice oa on oc,.bool cm]] [] (.bool (decide (okL V S T∧V≤8∧S≤12∧dn≤60∧on≤40))) []:=by
 refine Fn.enter (Tryz.func32) rfl rfl (fun w0 R=>?_)
 refine sA (xB 0 rfl (fun bk0=>(xaf rfl (dA (xf 0 zaJ rfl (xL3 0 zaa rfl rfl (TL.callD [] [] znP ⟨rfl,trivial⟩ trivial zri rfl rfl rfl rfl rfl trivial (TL.callD [] [] ziY ⟨rfl,trivial⟩ trivial zrk rfl rfl rfl rfl rfl trivial (TL.casesP rfl (fun q1=>?_) (fun q1=>?_))))))))))
 refine xmt rfl (xf 0 zaJ rfl (xf 0 zaq rfl (xli 0 zaf rfl rfl (TL.leq rfl rfl rfl rfl (fun q2=>?_) (fun q2=>?_)))))
 refine xpT rfl (xmt rfl (xf 0 zaJ rfl (xf 1 zba rfl (xli 0 zaf rfl rfl (TL.leq rfl rfl rfl rfl (fun q3=>?_) (fun q3=>?_))))))
 refine xpT rfl (xmt rfl (xf 3 zg0 rfl (xls 0 zgd rfl rfl (xz zaN rfl (TL.leq rfl rfl rfl rfl (fun q4=>?_) (fun q4=>?_))))))
 refine xpT rfl (xmt rfl (xf 4 zdZ rfl (xls 0 zj6 rfl rfl (xz zaZ rfl (TL.leqV rfl rfl rfl rfl (TL.pickT (.bool _) rfl rfl rfl rfl (xab rfl (dR ?_))))))))
 refine FQ.ret1 (v:=(.bool _)) (Bs:=[]) [] rfl rfl rfl trivial ?_
 exact ⟨congrArg Value.bool (by first | (simp [*]; done) | (simp [*]; omega) | (rw [eq_comm,decide_eq_false_iff_not]; intro hc; obtain ⟨c1,c2,c3,c4,c5⟩:=hc; first | omega | (simp_all; done)) | (rw [eq_comm,decide_eq_true_iff]; refine ⟨by simp_all,?_⟩; omega) | (rw [decide_eq_decide]; constructor<;>intro hc<;>first | omega | exact ⟨by simp_all,by omega⟩)),rfl⟩
 refine xpG rfl (xmf rfl (xo rfl (xo rfl (xo rfl (xo rfl (xpF rfl (xaf rfl (dR ?_))))))))
 refine FQ.ret1 (v:=(.bool false)) (Bs:=[]) [] rfl rfl rfl trivial ?_
 exact ⟨congrArg Value.bool (by first | (simp [*]; done) | (simp [*]; omega) | (rw [eq_comm,decide_eq_false_iff_not]; intro hc; obtain ⟨c1,c2,c3,c4,c5⟩:=hc; first | omega | (simp_all; done)) | (rw [eq_comm,decide_eq_true_iff]; refine ⟨by simp_all,?_⟩; omega) | (rw [decide_eq_decide]; constructor<;>intro hc<;>first | omega | exact ⟨by simp_all,by omega⟩)),rfl⟩
 refine xpG rfl (xmf rfl (xo rfl (xo rfl (xo rfl (xo rfl (xpF rfl (xmf rfl (xo rfl ?_))))))))
 refine xo rfl (xo rfl (xo rfl (xpF rfl (xaf rfl (dR ?_)))))
 refine FQ.ret1 (v:=(.bool false)) (Bs:=[]) [] rfl rfl rfl trivial ?_
 exact ⟨congrArg Value.bool (by first | (simp [*]; done) | (simp [*]; omega) | (rw [eq_comm,decide_eq_false_iff_not]; intro hc; obtain ⟨c1,c2,c3,c4,c5⟩:=hc; first | omega | (simp_all; done)) | (rw [eq_comm,decide_eq_true_iff]; refine ⟨by simp_all,?_⟩; omega) | (rw [decide_eq_decide]; constructor<;>intro hc<;>first | omega | exact ⟨by simp_all,by omega⟩)),rfl⟩
 refine xpG rfl (xmf rfl (xo rfl (xo rfl (xo rfl (xo rfl (xpF rfl (xmf rfl (xo rfl ?_))))))))
 refine xo rfl (xo rfl (xo rfl (xpF rfl (xmf rfl (xo rfl (xo rfl (xo rfl (xo rfl ?_))))))))
 refine xpF rfl (xaf rfl (dR ?_))
 refine FQ.ret1 (v:=(.bool false)) (Bs:=[]) [] rfl rfl rfl trivial ?_
 exact ⟨congrArg Value.bool (by first | (simp [*]; done) | (simp [*]; omega) | (rw [eq_comm,decide_eq_false_iff_not]; intro hc; obtain ⟨c1,c2,c3,c4,c5⟩:=hc; first | omega | (simp_all; done)) | (rw [eq_comm,decide_eq_true_iff]; refine ⟨by simp_all,?_⟩; omega) | (rw [decide_eq_decide]; constructor<;>intro hc<;>first | omega | exact ⟨by simp_all,by omega⟩)),rfl⟩
 refine xmf rfl (xo rfl (xo rfl (xo rfl (xo rfl (xpF rfl (xmf rfl (xo rfl (xo rfl ?_))))))))
 refine xo rfl (xo rfl (xpF rfl (xmf rfl (xo rfl (xo rfl (xo rfl (xo rfl (xpF rfl ?_))))))))
 refine xmf rfl (xo rfl (xo rfl (xo rfl (xo rfl (xpF rfl (xaf rfl (dR ?_)))))))
 refine FQ.ret1 (v:=(.bool false)) (Bs:=[]) [] rfl rfl rfl trivial ?_
 exact ⟨congrArg Value.bool (by first | (simp [*]; done) | (simp [*]; omega) | (rw [eq_comm,decide_eq_false_iff_not]; intro hc; obtain ⟨c1,c2,c3,c4,c5⟩:=hc; first | omega | (simp_all; done)) | (rw [eq_comm,decide_eq_true_iff]; refine ⟨by simp_all,?_⟩; omega) | (rw [decide_eq_decide]; constructor<;>intro hc<;>first | omega | exact ⟨by simp_all,by omega⟩)),rfl⟩
theorem zdV {l:Lay} (hl:l.Ok) {pb ab mb:Nat} {σ:Array UInt64} {x f:Int}:FnD Tryz.prog 48 [.pointer (some ⟨pb,0,none⟩),.int .i64 x,.int .i64 f] [pt pb (.cells #[.int .i64 l.V,.int .i64 l.S,.int .i64 l.T,.pointer (some ⟨ab,0,none⟩)] 84),zaF ab mb 140 71 (σ)] (.int .i64 (zaB l σ (l.field x f))) [pt pb (.cells #[.int .i64 l.V,.int .i64 l.S,.int .i64 l.T,.pointer (some ⟨ab,0,none⟩)] 84),zaF ab mb 140 71 (σ)]:=by
 refine Fn.enter (Tryz.func48) rfl rfl (fun w0 R=>?_)
 refine sA (xai rfl (dS (TC.draw [(0,true),(1,true),(2,true),(3,true),(6,true),(7,true),(8,true),(9,true),(10,true),(11,true),(12,true),(13,true),(14,true),(15,true),(4,false),(5,true),(16,false),(17,false),(18,true)] [0] fc_m (by kernel_rfl) (xmp rfl (xN0 rfl (xf 3 zdc rfl (xlp 0 zgc rfl rfl (xmp rfl ?_))))))))
 refine xN0 rfl (xf 0 zbk rfl (xL3 0 zaa rfl rfl (xmp rfl (xN0 rfl (xf 0 zbk rfl (xL3 0 zaa rfl rfl (xmi rfl (xmi rfl ?_))))))))
 refine TL.callD [] [] zcS ⟨rfl,trivial⟩ trivial zfx rfl rfl rfl rfl rfl (kL1 rfl trivial) (TL.miN (v:=(.agg _)) rfl zdL rfl rfl (TL.callD [] [] (zaR hl) ⟨rfl,rfl,rfl,trivial⟩ trivial zbN rfl rfl rfl rfl rfl (kL1 rfl trivial) (TL.callD [1] [1] (zn4 zbl (zgu) hl (fun _=>rfl)) ⟨rfl,rfl,rfl,trivial⟩ ⟨rfl,trivial⟩ zqo rfl rfl rfl rfl rfl (kL1 rfl trivial) (xai rfl (dR ?_)))))
 refine FQ.ret1 (v:=(.int _ _)) (Bs:=[_,_]) [0,1] rfl rfl rfl ⟨rfl,rfl,trivial⟩ ?_
 exact ⟨rfl,by unfold zei; dsimp only; split<;>rfl⟩
set_option maxHeartbeats 1000000 in
theorem zk4 {l:Lay} (hl:l.Ok) {da oa:Option Addr} {dn dc on oc:Nat} {Ad:Assn} {bd offd bo offo:Nat} {fd:Nat→Int} {fo:Nat→Op3} (hda:0<dn→da=some ⟨bd,offd,none⟩) (hAd:zbj Ad encU 1 bd offd dn fd) (hfd:∀ i,i<dn→0≤fd i∧fd i<18446744073709551616) (hdn:dn≤60) (hoa:0<on→oa=some ⟨bo,offo,none⟩) (hAo:zbj Ad zm4 3 bo offo on fo) (hoc:on≤oc) (hon:on≤40) {cm:Bool}:Go.Eng.Fn Tryz.prog 34 [.agg #[.int .i64 l.V,.int .i64 l.S,.int .i64 l.T,.slice da dn dc,.slice oa on oc,.bool cm]] [Ad] (fun x Bs=>∃ pb ab mb σ1 σ2 g1 g2 ver,x=.pointer (some ⟨pb,0,none⟩)∧Bs=[Ad,pt pb (.cells #[.int .i64 l.V,.int .i64 l.S,.int .i64 l.T,.pointer (some ⟨ab,0,none⟩)] 84),zaF ab mb 140 71 (bmem l cm σ2)]∧Begun l (fun x=>if dn=0 then 0 else fd (x.toNat % dn)) fo on σ1 σ2 g1 g2 ver):=by
 have hnb:=zaO hl
 have hcb:=zdP hl
 have hlb:=zbR hl
 have hob:=zbE hl
 have hT1:=zlf hl
 have hBn:=znp hl hfd (N:=l.cells.toNat) (by omega)
 refine Fn.enter (Tryz.func34) rfl rfl (fun w0 R=>?_)
 refine sA (xB 1 rfl (fun bk1=>(TL.asg (.pointer none) rfl rfl rfl (dA (xf 0 zaJ rfl (xL3 1 zaa rfl rfl (xf 3 zg0 rfl (xls 1 zgd rfl rfl (TL.call [0] [0,2] (zkq hl hda hAd hfd (by omega)) ⟨rfl,rfl,trivial⟩ ⟨rfl,trivial⟩ zo0 rfl rfl rfl rfl ?_)))))))))
 rintro v Bs ⟨ab,mb,rfl,rfl⟩
 refine ⟨rfl,trivial,?_⟩
 refine xmu rfl (TL.ext (.pointer (some ⟨_,_,none⟩)) rfl rfl rfl rfl (xei rfl rfl (xap rfl (xai rfl (dB (xmi rfl (TL.neqF rfl rfl (by decide) rfl rfl (xmf rfl ?_))))))))
 refine xmp rfl (TL.nilP false rfl rfl zoT rfl rfl rfl (xpF rfl (dF rfl (xf 0 zaJ rfl (xL3 1 zaa rfl rfl (xmp rfl (TL.bld [.int .i64 0,.int .i64 0,.int .i64 0,.pointer none] [(.agg _),(.pointer (some ⟨_,_,none⟩))] [_,_,_,_] zqY zq5 ⟨rfl,rfl,trivial⟩ ⟨rfl,rfl⟩ rfl rfl (xB 3 rfl (fun bk3=>?_)))))))))
 refine xap rfl (dA (TL.bld [.int .i64 0,.int .i64 0] [(.int _ _)] [_,_] zj5 zmq ⟨rfl,trivial⟩ ⟨rfl,rfl⟩ rfl rfl (TL.alloc 4 (cs:=#[.int .i64 0,.int .i64 0]) zj5 rfl rfl rfl (fun _=>trivial) (fun bk4=>(TL.stW 4 2 [_,_] rfl rfl rfl rfl rfl rfl zbA rfl rfl trivial (dA (xmp rfl (TL.callD [] [] zcS ⟨rfl,trivial⟩ trivial zfx rfl rfl rfl rfl rfl trivial (TL.alloc 5 (cs:=#[.pointer none]) zmm rfl rfl rfl (fun _=>trivial) (fun bk5=>?_))))))))))
 refine TL.stW 5 1 [_] rfl rfl rfl rfl rfl rfl zdv rfl rfl trivial (dA (xf 4 zdZ rfl (xls 1 zj6 rfl rfl (xz zaZ rfl (TL.quo (((on / 2:Nat):Int)) rfl rfl (by omega) (zqV (by omega)) rfl rfl (xai rfl (dS (TC.draw [(0,true),(1,true),(2,true),(3,true),(4,true),(5,true),(6,false)] [1,4] fc_m (by kernel_rfl) ?_))))))))
 refine xmp rfl (xL2 4 zbA rfl rfl (xf 4 zdZ rfl (xls 1 zj6 rfl rfl (xmi rfl (TL.slHi rfl rfl zaZ (by omega) rfl rfl (TL.call [3,2,0] [3,2,0] (zm7 (p:=⟨1,0⟩) hl (fun h=>zoE hoa hoc (by omega)) (hAo.drop 0 (on / 2) (by omega)) (by omega) zpw hT1 (hBn.w0 hl)) ⟨rfl,rfl,rfl,trivial⟩ ⟨rfl,rfl,rfl,trivial⟩ zoZ rfl rfl rfl rfl ?_))))))
 rintro x Bs ⟨rfl,σ2,g2,rfl,hW2,hG2,hR2⟩
 refine ⟨rfl,(kL2 rfl rfl trivial),?_⟩
 refine dA (xL2 4 zbA rfl rfl (TL.ldA 5 1 [_] rfl rfl rfl zdv rfl rfl (TL.miN (v:=(.agg _)) rfl zdL rfl rfl (xf 0 zaJ rfl (xL3 1 zaa rfl rfl (TL.callD [2] [2] (ze7 (p:=⟨1,0⟩) zbl (zbi) hl) ⟨rfl,rfl,rfl,trivial⟩ ⟨rfl,trivial⟩ zmv rfl rfl rfl rfl rfl trivial (dB (xai rfl ?_))))))))
 refine dK (TC.loopK (X:=Nat) [1,2,5,6,7,8] [0,1,3,4,5] (fun x=>[(9,.int .i64 ((x+1:Nat):Int))]) (fun x=>[(2,zaF ab mb 140 71 (zbP l false x (za5 l ⟨1,0⟩ σ2 0 true)))]) (fun x=>(x:Int)≤l.nodes) (fun x=>l.nodes.toNat - x) (0) (by omega) ⟨rfl,trivial⟩ ⟨rfl,trivial⟩ (fun x hI=>(TC.sub (env':=[(9,_),(1,_),(2,_),(5,_),(6,_),(7,_),(8,_)]) (L':=[(2,_),(0,_),(1,_),(3,_),(4,_),(5,_)]) ⟨rfl,rfl,rfl,rfl,rfl,rfl,rfl,trivial⟩ ⟨rfl,rfl,rfl,rfl,rfl,rfl,trivial⟩ (sB (xmi rfl (xf 0 zaJ rfl (xL3 1 zaa rfl rfl (TL.callD [] [] (zcA hl) ⟨rfl,trivial⟩ trivial zeV rfl rfl rfl rfl rfl trivial ?_))))))))
 refine TL.leq rfl rfl rfl rfl (fun q1=>?_) (fun q1=>?_)
 refine TL.done (TQ.then (TC.condT rfl (TC.skip (TQ.then (TC.seq (TC.block (sA (xf 0 zaJ rfl ?_))))))))
 refine xL3 1 zaa rfl rfl (xmi rfl (TL.callD [] [] (zel hl) ⟨rfl,rfl,trivial⟩ trivial zgm rfl rfl rfl rfl rfl trivial (xmu rfl (TL.ext (.agg _) rfl rfl rfl rfl (TL.ext (.bool _) rfl rfl rfl rfl (TL.alloc 6 (cs:=#[.bool false,.int .i64 0,.int .i64 0,.int .i64 0,.int .i64 0]) zdI rfl rfl rfl (fun _=>trivial) (fun bk6=>(TL.stW 6 5 [_,_,_,_,_] rfl rfl rfl rfl rfl rfl zby rfl rfl trivial (xab rfl ?_)))))))))
 refine dA (xf 1 zdY rfl (xli 6 zaf rfl rfl (TL.eql rfl rfl rfl rfl (fun q2=>?_) (fun q2=>?_))))
 refine TL.done (TQ.then (TC.condT rfl (TC.draw [(0,true),(1,true),(2,true),(3,true),(4,true),(5,true),(6,false),(7,false)] [1,4,5] fc_m (by kernel_rfl) (xL2 4 zbA rfl rfl (TL.ldA 5 1 [_] rfl rfl rfl zdv rfl rfl (TL.miN (v:=(.agg _)) rfl zdL rfl rfl (xf 0 zaJ rfl (xL3 1 zaa rfl rfl ?_))))))))
 refine xmi rfl (TL.callD [] [] (zaR hl) ⟨rfl,rfl,rfl,trivial⟩ trivial zbN rfl rfl rfl rfl rfl (kL3 rfl rfl rfl trivial) (TL.callD [2] [2] (zko (p:=⟨1,0⟩) zbl) ⟨rfl,rfl,rfl,trivial⟩ ⟨rfl,trivial⟩ zoV rfl rfl rfl rfl rfl (kL3 rfl rfl rfl trivial) (dI (xmi rfl (TL.add (((x+2:Nat):Int)) rfl rfl (wrN (by omega)) rfl rfl (xai rfl (TL.done (TQ.roundK (x+1) ⟨(by omega),(by omega)⟩ ⟨rfl,trivial⟩ ⟨congrArg (fun z=>some (zaF ab mb 140 71 (z))) (znf (by assumption)),trivial⟩ (kE6 rfl rfl rfl rfl rfl rfl trivial) (kL5 rfl rfl rfl rfl rfl trivial)))))))))
 refine TL.done (TQ.then (TC.condF rfl (TC.skip (TQ.inBlock (TQ.then (TC.region (xmi rfl (TL.add (((x+2:Nat):Int)) rfl rfl (wrN (by omega)) rfl rfl ?_))))))))
 refine xai rfl (TL.done (TQ.roundK (x+1) ⟨(by omega),(by omega)⟩ ⟨rfl,trivial⟩ ⟨congrArg (fun z=>some (zaF ab mb 140 71 (z))) (zom (by assumption)),trivial⟩ (kE6 rfl rfl rfl rfl rfl rfl trivial) (kL5 rfl rfl rfl rfl rfl trivial)))
 refine dE rfl (sA (xL2 4 zbA rfl rfl (TL.ldA 5 1 [_] rfl rfl rfl zdv rfl rfl (TL.miN (v:=(.agg _)) rfl zdL rfl rfl (xf 0 zaJ rfl (xL3 1 zaa rfl rfl ?_))))))
 obtain rfl:x=l.nodes.toNat:=by omega
 obtain ⟨ver,hC⟩:=hBn.half hl hW2 hR2
 refine TL.callD [2] [2] (zpv (p:=⟨1,0⟩) zbl (zbi) hl) ⟨rfl,rfl,rfl,trivial⟩ ⟨rfl,trivial⟩ zrj rfl rfl rfl rfl rfl trivial (dA (xf 1 zb8 rfl (TL.st 4 #[_,_] (.int _ _) rfl rfl rfl rfl rfl rfl zaf rfl rfl trivial (dS (TC.draw [(0,true),(1,true),(2,true),(3,true),(4,true),(5,true),(6,false)] [1,4] fc_m (by kernel_rfl) (xmp rfl (xL2 4 zbA rfl rfl (xf 4 zdZ rfl ?_))))))))
 refine xls 1 zj6 rfl rfl (xmi rfl (TL.slLo rfl rfl zaZ (by omega) rfl rfl (TL.call [3,2,0] [3,2,0] (zm7 (p:=⟨1,1⟩) hl (fun h=>zoE hoa hoc (by omega)) (hAo.drop (on / 2) (on - on / 2) (by omega)) (by omega) zlL hT1 (hC.writ hl)) ⟨rfl,rfl,rfl,trivial⟩ ⟨rfl,rfl,rfl,trivial⟩ zoZ rfl rfl rfl rfl ?_)))
 rintro x3 Bs ⟨rfl,σ3,g3,rfl,hW3,hG3,hR3⟩
 refine ⟨rfl,(kL2 rfl rfl trivial),?_⟩
 refine dB (xf 5 zgZ rfl (xlb 1 zbS rfl rfl (TL.done (TQ.then (TC.cond rfl (fun q2=>?_) (fun q2=>?_))))))
 refine TC.region (xL2 4 zbA rfl rfl (TL.ldA 5 1 [_] rfl rfl rfl zdv rfl rfl (TL.miN (v:=(.agg _)) rfl zdL rfl rfl (xf 0 zaJ rfl (xL3 1 zaa rfl rfl (TL.callD [2] [2] (ze7 (p:=⟨1,1⟩) zbl (zbi) hl) ⟨rfl,rfl,rfl,trivial⟩ ⟨rfl,trivial⟩ zmv rfl rfl rfl rfl rfl trivial (dA (xmp rfl ?_))))))))
 refine xap rfl (dR ?_)
 refine FQ.ret1 (v:=(.pointer (some ⟨_,_,none⟩))) (Bs:=[_,_,_]) [0,3,2] rfl rfl rfl ⟨rfl,rfl,rfl,trivial⟩ ?_
 exact ⟨_,_,_,_,_,_,_,ver,rfl,by unfold bmem; rw [if_pos (by assumption)],⟨hC,hG2.trans (zjj (by intro i; rw [Nat.zero_add])),hW3,hG3.trans (zme hG2)⟩⟩
 refine TC.skip (TQ.then (sA (xmp rfl (xap rfl (dR ?_)))))
 refine FQ.ret1 (v:=(.pointer (some ⟨_,_,none⟩))) (Bs:=[_,_,_]) [0,3,2] rfl rfl rfl ⟨rfl,rfl,rfl,trivial⟩ ?_
 exact ⟨_,_,_,_,_,_,_,ver,rfl,by unfold bmem; rw [if_neg (by simp [*])],⟨hC,hG2.trans (zjj (by intro i; rw [Nat.zero_add])),hW3,hG3.trans (zme hG2)⟩⟩
theorem FnD.arenaA2 {P:Program} {f:FuncId} {args:List Value} {ab mb:Nat} {T T':TypeId} {σ σ':Array UInt64} {X X':Assn} {r:Value} (h:∀ c,∃ c',FnD P f args [X,arenaC ab mb T T' σ c] r [X',arenaC ab mb T T' σ' c']):FnD P f args [X,zaF ab mb T T' σ] r [X',zaF ab mb T T' σ']:=by
 refine Fn.swapI ?_
 intro w0 R w hs
 obtain ⟨c,hs1⟩:=hs.head_ex
 obtain ⟨c',h1⟩:=h c
 refine (h1 w0 R w hs1.swap2).mono ?_
 rintro e w' ⟨v,Bs,he,⟨rfl,rfl⟩,hs'⟩
 exact ⟨_,_,he,⟨rfl,rfl⟩,(hs'.swap2.head (B:=zaF ab mb T T' σ') fun x hx=>⟨c',hx⟩).swap2⟩
theorem ziC {l:Lay} (hl:l.Ok) {cb ab mb:Nat} {c:ClimbS} {σ:Array UInt64}:FnD Tryz.prog 40 [.pointer (some ⟨cb,0,none⟩),.pointer (some ⟨ab,0,none⟩)] [zaz 157 189 cb l (c),zaF ab mb 140 71 (σ)] (.bool (c.stp l σ).done) [zaz 157 189 cb l (c.stp l σ),zaF ab mb 140 71 (σ)]:=FnD.arenaA2 fun _=>⟨_,zhW hl⟩
theorem zbQ  : FnD Tryz.prog 33 [] [] (.bool true) []:=by
 obtain ⟨h1,h2,h3,h4,h5⟩:=zoq
 refine Fn.enter (Tryz.func33) rfl rfl (fun w0 R=>?_)
 refine TC.seq (TC.nilA 0 (A:=fun _=>True) trivial (TC.region (xaf rfl (dA (TL.bld [.int .i64 0,.int .i64 0,.int .i64 0] [(.int _ _),(.int _ _),(.int _ _)] [_,_,_] zoR zrb ⟨rfl,rfl,rfl,trivial⟩ ⟨rfl,rfl⟩ rfl rfl (TL.alloc 1 (cs:=#[.int .i64 0,.int .i64 0,.int .i64 0]) zoR rfl rfl rfl (fun _=>trivial) (fun bk1=>(TL.stW 1 3 [_,_,_] rfl rfl rfl rfl rfl rfl zaa rfl rfl trivial (dA ?_)))))))))
 refine xL3 1 zaa rfl rfl (TL.call [0] [0,2] (zkq (l:=l16) (a:=none) (dn:=0) (dc:=0) (Ad:=fun _=>True) (b:=0) (off:=0) (fd:=fun _=>0) zj3 (fun h=>absurd h (Nat.lt_irrefl 0)) (fun _ _ i hi=>absurd hi (Nat.not_lt_zero i)) (fun i hi=>absurd hi (Nat.not_lt_zero i)) (by decide)) ⟨rfl,rfl,trivial⟩ ⟨rfl,trivial⟩ zo0 rfl rfl rfl rfl ?_)
 rintro v Bs ⟨ab,mb,rfl,rfl⟩
 refine ⟨rfl,trivial,?_⟩
 refine xmu rfl (TL.ext (.pointer (some ⟨_,_,none⟩)) rfl rfl rfl rfl (xei rfl rfl (xap rfl (xai rfl (dB (xmi rfl (TL.neqF rfl rfl (by decide) rfl rfl (xmf rfl ?_))))))))
 refine xmp rfl (TL.nilP false rfl rfl zoT rfl rfl rfl (xpF rfl (dF rfl (xL3 1 zaa rfl rfl (TL.call [] [3] (znd (l:=l16) zj3) ⟨rfl,rfl,trivial⟩ trivial zoY rfl rfl rfl rfl ?_)))))
 rintro x Bs ⟨cb,rfl,rfl⟩
 refine ⟨rfl,trivial,?_⟩
 refine xap rfl (dS (TC.seq (TC.openE 2 rfl (fun n0=>(TC.region (xmp rfl (TL.nilP false rfl rfl zoS rfl rfl rfl (xmf rfl (xmp rfl ?_)))))))))
 refine xmp rfl (TL.callD [3,2] [3,2] (zhW zj3) ⟨rfl,rfl,trivial⟩ ⟨rfl,rfl,trivial⟩ zkd rfl rfl rfl rfl rfl trivial ?_)
 rw [h1]
 refine xpF rfl (xmf rfl (xmp rfl (xmp rfl (TL.callD [3,2] [3,2] (zhW zj3) ⟨rfl,rfl,trivial⟩ ⟨rfl,rfl,trivial⟩ zkd rfl rfl rfl rfl rfl trivial ?_))))
 rw [h2]
 refine xnt rfl (xpF rfl (dF rfl (xmp rfl (TL.callD [3] [3] zki ⟨rfl,trivial⟩ ⟨rfl,trivial⟩ zoX rfl rfl rfl rfl rfl trivial ?_))))
 rw [show ClimbS.root _=2 from by unfold ClimbS.root; rw [if_pos h2]; exact h3]
 refine TL.eqlT rfl rfl rfl rfl rfl (xmt rfl (xmp rfl (TL.callD [3] [3] zet ⟨rfl,trivial⟩ ⟨rfl,trivial⟩ zmu rfl rfl rfl rfl rfl trivial ?_)))
 rw [show ClimbS.version _=0 from h4]
 refine TL.eqlT rfl rfl rfl rfl rfl (xpT rfl (xmt rfl (xmp rfl (TL.callD [3] [3] zm9 ⟨rfl,trivial⟩ ⟨rfl,trivial⟩ zrm rfl rfl rfl rfl rfl trivial ?_))))
 rw [show ClimbS.step _=2 from h5]
 refine TL.eqlT rfl rfl rfl rfl rfl (xpT rfl (xmt rfl (xmp rfl (TL.callD [3] [3] zkp ⟨rfl,trivial⟩ ⟨rfl,trivial⟩ zoW rfl rfl rfl rfl rfl trivial ?_))))
 rw [show ClimbS.done _=true from h2]
 refine xpT rfl (xat rfl (dR ?_))
 refine FQ.ret1 (v:=(.bool true)) (Bs:=[]) [] rfl rfl rfl trivial ?_
 exact ⟨rfl,rfl⟩
theorem zlR {V S T:Int} {da oa:Option Addr} {dn dc on oc:Nat} {cm:Bool} {v wt:Int} (hno:¬(okL V S T∧V≤8∧S≤12∧dn≤60∧on≤40)):FnD Tryz.prog 8 [.agg #[.int .i64 V,.int .i64 S,.int .i64 T,.slice da dn dc,.slice oa on oc,.bool cm],.int .i64 v,.int .i64 wt] [] (.bool true) []:=by
 refine Fn.enter (Tryz.func8) rfl rfl (fun w0 R=>?_)
 refine sA (xB 0 rfl (fun bk0=>(xaf rfl (dB (xL6 0 zhR rfl rfl (TL.callD [] [] zgP ⟨rfl,trivial⟩ trivial zo1 rfl rfl rfl rfl rfl trivial ?_))))))
 rw [decide_eq_false hno]
 refine xnf rfl (xmt rfl (xo rfl (xo rfl (xpT rfl (xmt rfl (xo rfl (xo rfl (xo rfl ?_))))))))
 refine xo rfl (xo rfl (xpT rfl (xmt rfl (xo rfl (xo rfl (xpT rfl (xmt rfl (xo rfl ?_))))))))
 refine xo rfl (xpT rfl (dT rfl (TL.callD [] [] zbQ trivial trivial zfy rfl rfl rfl rfl rfl trivial (xat rfl (dRR ?_)))))
 refine FQ.ret1 (v:=(.bool true)) (Bs:=[]) [] rfl rfl rfl trivial ?_
 exact ⟨rfl,rfl⟩
set_option maxHeartbeats 1000000 in
theorem zlS {l:Lay} (hl:l.Ok) {da oa:Option Addr} {dn dc on oc:Nat} {Ad:Assn} {bd offd bo offo:Nat} {fd:Nat→Int} {fo:Nat→Op3} (hda:0<dn→da=some ⟨bd,offd,none⟩) (hAd:zbj Ad encU 1 bd offd dn fd) (hfd:∀ i,i<dn→0≤fd i∧fd i<18446744073709551616) (hoa:0<on→oa=some ⟨bo,offo,none⟩) (hAo:zbj Ad zm4 3 bo offo on fo) (hoc:on≤oc) {cm:Bool} {v wt:Int} (hok:(okL l.V l.S l.T∧(l.V:Int)≤8∧(l.S:Int)≤12∧dn≤60∧on≤40)):FnD Tryz.prog 8 [.agg #[.int .i64 l.V,.int .i64 l.S,.int .i64 l.T,.slice da dn dc,.slice oa on oc,.bool cm],.int .i64 v,.int .i64 wt] [Ad] (.bool true) [Ad]:=by
 obtain ⟨hk1,hk2,hk3,hk4,hk5⟩:=hok
 have hok:(okL l.V l.S l.T∧(l.V:Int)≤8∧(l.S:Int)≤12∧dn≤60∧on≤40):=⟨hk1,hk2,hk3,hk4,hk5⟩
 have hdn:dn≤60:=by omega
 have hon:on≤40:=by omega
 have hnb:=zaO hl
 have hcb:=zdP hl
 have hlb:=zbR hl
 have hob:=zbE hl
 have hlk:=zem hl
 have hhd:l.heads=l.T+1+l.S * 7:=rfl
 refine Fn.enter (Tryz.func8) rfl rfl (fun w0 R=>?_)
 refine sA (xB 1 rfl (fun bk1=>(xaf rfl (dB (xL6 1 zhR rfl rfl (TL.callD [] [] zgP ⟨rfl,trivial⟩ trivial zo1 rfl rfl rfl rfl rfl trivial ?_))))))
 rw [decide_eq_true hok]
 refine xnt rfl (xmf rfl (xmi rfl (TL.lss rfl rfl rfl rfl (fun q1=>?_) (fun q1=>?_))))
 refine xpH rfl (xmt rfl (xo rfl (xo rfl (xo rfl (xo rfl (xo rfl (xpT rfl (xmt rfl ?_))))))))
 refine xo rfl (xo rfl (xpT rfl (xmt rfl (xo rfl (xo rfl (xpT rfl (dT rfl (TL.callD [] [] zbQ trivial trivial zfy rfl rfl rfl rfl rfl trivial ?_))))))))
 refine xat rfl (dRR ?_)
 refine FQ.ret1 (v:=(.bool true)) (Bs:=[_]) [0] rfl rfl rfl ⟨rfl,trivial⟩ ?_
 exact ⟨rfl,rfl⟩
 refine xpF rfl (xmf rfl (xmi rfl (xf 0 zaJ rfl (xf 0 zaq rfl (xli 1 zaf rfl rfl (TL.geq rfl rfl rfl rfl (fun q2=>?_) (fun q2=>?_)))))))
 refine xpH rfl (xmt rfl (xo rfl (xo rfl (xpT rfl (xmt rfl (xo rfl (xo rfl (xpT rfl ?_))))))))
 refine dT rfl (TL.callD [] [] zbQ trivial trivial zfy rfl rfl rfl rfl rfl trivial (xat rfl (dRR ?_)))
 refine FQ.ret1 (v:=(.bool true)) (Bs:=[_]) [0] rfl rfl rfl ⟨rfl,trivial⟩ ?_
 exact ⟨rfl,rfl⟩
 refine xpF rfl (xmf rfl (xmi rfl (TL.lss rfl rfl rfl rfl (fun q3=>?_) (fun q3=>?_))))
 refine xpH rfl (xmt rfl (xo rfl (xo rfl (xpT rfl (dT rfl (TL.callD [] [] zbQ trivial trivial zfy rfl rfl rfl rfl rfl trivial (xat rfl (dRR ?_))))))))
 refine FQ.ret1 (v:=(.bool true)) (Bs:=[_]) [0] rfl rfl rfl ⟨rfl,trivial⟩ ?_
 exact ⟨rfl,rfl⟩
 refine xpF rfl (xmf rfl (xmi rfl (TL.gtr rfl rfl rfl rfl (fun q4=>?_) (fun q4=>?_))))
 refine xpH rfl (dT rfl (TL.callD [] [] zbQ trivial trivial zfy rfl rfl rfl rfl rfl trivial (xat rfl (dRR ?_))))
 refine FQ.ret1 (v:=(.bool true)) (Bs:=[_]) [0] rfl rfl rfl ⟨rfl,trivial⟩ ?_
 exact ⟨rfl,rfl⟩
 refine xpF rfl (dF rfl (xf 5 zgZ rfl (TL.st 1 #[_,_,_,_,_,_] (.bool false) rfl rfl rfl rfl rfl rfl zbS rfl rfl trivial (dA (xL6 1 zhR rfl rfl (TL.call [0] [0,2,3] (zk4 (cm:=false) hl hda hAd hfd (by omega) hoa hAo hoc (by omega)) ⟨rfl,trivial⟩ ⟨rfl,trivial⟩ zro rfl rfl rfl rfl ?_))))))
 rintro x Bs ⟨pb,ab,mb,σ1,σ2,g1,g2,ver,rfl,rfl,hB⟩
 refine ⟨rfl,trivial,?_⟩
 refine xap rfl (dB (xmp rfl (TL.nilP false rfl rfl zrc rfl rfl rfl (dF rfl (xf 0 zaJ rfl (xL3 1 zaa rfl rfl (xmi rfl (TL.call [] [4] (znd hl) ⟨rfl,rfl,trivial⟩ trivial zoY rfl rfl rfl rfl ?_))))))))
 rintro x Bs ⟨cb,rfl,rfl⟩
 refine ⟨rfl,trivial,?_⟩
 refine xap rfl (dB (xmp rfl (TL.nilP false rfl rfl zoS rfl rfl rfl (TL.done (TQ.then (TC.condF rfl (TC.skip (TQ.then ?_))))))))
 refine sB (xmi rfl (xmi rfl (dK (TC.loopK (X:=Nat) [3,6,7,8,49] [0,1,2,3] (fun i=>[(50,.int .i64 ((i:Nat):Int))]) (fun i=>[(4,zaz 157 189 cb l (Go.Tm.runN l (bmem l false σ2) i (zaT l v)))]) (fun i=>(i:Int)≤wt) (fun i=>wt.toNat - i) (0) (by omega) ⟨rfl,trivial⟩ ⟨rfl,trivial⟩ (fun i hI=>(TC.sub (env':=[(50,_),(3,_),(6,_),(7,_),(8,_),(49,_)]) (L':=[(4,_),(0,_),(1,_),(2,_),(3,_)]) ⟨rfl,rfl,rfl,rfl,rfl,rfl,trivial⟩ ⟨rfl,rfl,rfl,rfl,rfl,trivial⟩ (sA (TL.lss rfl rfl rfl rfl (fun q5=>?_) (fun q5=>?_)))))))))
 refine dS (TC.condT rfl (TC.skip (TQ.then (TC.seq (TC.block (TC.region (xmp rfl (xmp rfl ?_))))))))
 refine xN0 rfl (xf 3 zdc rfl (xlp 2 zgc rfl rfl (TL.callD [4,3] [4,3] (ziC hl) ⟨rfl,rfl,trivial⟩ ⟨rfl,rfl,trivial⟩ zkd rfl rfl rfl rfl rfl trivial ?_)))
 rw [←zcH]
 refine dI (TL.add (((i+1:Nat):Int)) rfl rfl (wrN (by omega)) rfl rfl (xmi rfl (TL.done (TQ.roundK (i+1) ⟨by omega,by omega⟩ ⟨rfl,trivial⟩ ⟨rfl,trivial⟩ (kE5 rfl rfl rfl rfl rfl trivial) (kL4 rfl rfl rfl rfl trivial)))))
 refine dS (TC.condF rfl (TC.exit (TQ.thenExit (TQ.thenExit (TQ.blockHere (TQ.then (sB (xmp rfl ?_))))))))
 refine TL.callD [4] [4] zkp ⟨rfl,trivial⟩ ⟨rfl,trivial⟩ zoW rfl rfl rfl rfl rfl trivial (TL.cases rfl (fun q6=>?_) (fun q6=>?_))
 refine dT rfl (TL.callD [] [] zbQ trivial trivial zfy rfl rfl rfl rfl rfl trivial (xat rfl (dRR ?_)))
 refine FQ.ret1 (v:=(.bool true)) (Bs:=[_]) [0] rfl rfl rfl ⟨rfl,trivial⟩ ?_
 exact ⟨rfl,rfl⟩
 refine TL.done (TQ.then (TC.condF rfl (TC.skip (TQ.then (TC.seq ?_)))))
 obtain ⟨N,r,hN1,hN2,hE,hr,hro⟩:=hB.moves hl (v:=v) ⟨by omega,by omega⟩ (w:=i) (by omega) (by assumption)
 refine TC.region (TL.asg (.slice none 0 0) rfl rfl rfl (dS (TC.seq (TC.nilA 5 (A:=ownA encB 1 4 (.slice none 0 0) #[]) (.inl ⟨rfl,rfl⟩) (TC.region (xai rfl (dK (TC.loopK (X:=Nat×Value) [3,6,7,8] [0,1,2,3,4] (fun ⟨x,v9⟩=>[(10,.int .i64 ((x:Nat):Int)),(9,v9)]) (fun ⟨x,v9⟩=>[(5,ownA encB 1 4 v9 (((List.range x).map fun j:Nat=>ze6 l (bmem l false σ2) (j:Int)).toArray))]) (fun ⟨x,v9⟩=>(x:Int)≤l.nodes+1) (fun ⟨x,v9⟩=>(l.nodes+1).toNat - x) ((0,.slice none 0 0)) (by show ((0:Nat):Int)≤_; omega) ⟨rfl,rfl,trivial⟩ ⟨rfl,trivial⟩ (fun y hI=>?_)))))))))
 obtain ⟨x,v9⟩:=y
 replace hI:(x:Int)≤l.nodes+1:=hI
 refine TC.sub (env':=[(10,_),(9,_),(3,_),(6,_),(7,_),(8,_)]) (L':=[(5,_),(0,_),(1,_),(2,_),(3,_),(4,_)]) ⟨rfl,rfl,rfl,rfl,rfl,rfl,trivial⟩ ⟨rfl,rfl,rfl,rfl,rfl,rfl,trivial⟩ (sB (xmi rfl (xf 0 zaJ rfl (xL3 1 zaa rfl rfl (TL.callD [] [] (zcA hl) ⟨rfl,trivial⟩ trivial zeV rfl rfl rfl rfl rfl trivial (TL.leq rfl rfl rfl rfl (fun q7=>?_) (fun q7=>?_)))))))
 refine TL.done (TQ.then (TC.condT rfl (TC.skip (TQ.then (TC.seq (TC.block (sA (xf 0 zaJ rfl ?_))))))))
 refine xL3 1 zaa rfl rfl (xmi rfl (TL.callD [] [] (zel hl) ⟨rfl,rfl,trivial⟩ trivial zgm rfl rfl rfl rfl rfl trivial (xmu rfl (TL.ext (.agg _) rfl rfl rfl rfl (TL.ext (.bool _) rfl rfl rfl rfl (TL.alloc 6 (cs:=#[.bool false,.int .i64 0,.int .i64 0,.int .i64 0,.int .i64 0]) zdI rfl rfl rfl (fun _=>trivial) (fun bk6=>(TL.stW 6 5 [_,_,_,_,_] rfl rfl rfl rfl rfl rfl zby rfl rfl trivial (xab rfl ?_)))))))))
 refine dG (xmv rfl (xmb rfl (TL.cases rfl (fun q8=>?_) (fun q8=>?_))))
 refine xmt rfl (xf 1 zdY rfl (xli 6 zaf rfl rfl (TL.eql rfl rfl rfl rfl (fun q9=>?_) (fun q9=>?_))))
 refine xpT rfl (xmt rfl (xmp rfl (xmi rfl (TL.callD [2,3] [2,3] (zdV hl) ⟨rfl,rfl,rfl,trivial⟩ ⟨rfl,rfl,trivial⟩ zkc rfl rfl rfl rfl rfl trivial (TL.eqlV rfl rfl rfl rfl (TL.pickT (.bool _) rfl rfl rfl rfl (TL.bsN 7 [_] (encB (decide (zaB l (bmem l false σ2) (l.field (x:Int) 2)=0))) zbM zoe ⟨rfl,trivial⟩ rfl (lit1 rfl) rfl rfl (fun bk7=>⟨trivial,?_⟩))))))))
 refine TL.appS 5 7 (d2:=#[decide (zaB l (bmem l false σ2) (l.field (x:Int) 2)=0)]) rfl (rfl) rfl (fun _=>rfl) rfl rfl (row1 rfl) zhU (by decide) zdX (by rw [zhh]; simp; omega) rfl rfl (fun v8=>⟨trivial,?_⟩)
 refine TL.conseq 5 (B:=ownA encB 1 4 v8 (((List.range (x+1)).map fun j:Nat=>ze6 l (bmem l false σ2) (j:Int)).toArray)) rfl (fun h hh=>by rw [←zhg,show ze6 l (bmem l false σ2) (x:Int)=(decide (zaB l (bmem l false σ2) (l.field (x:Int) 2)=0)) from by unfold ze6; simp [*]]; exact hh) trivial (xav rfl (dI (xmi rfl (TL.add (((x+1:Nat):Int)) rfl rfl (wrN (by omega)) rfl rfl (xai rfl (TL.done (TQ.roundK ((x+1,_)) ⟨(show ((x+1:Nat):Int)≤l.nodes+1 by omega),(show (l.nodes+1).toNat - (x+1)<(l.nodes+1).toNat - x by omega)⟩ ⟨rfl,rfl,trivial⟩ ⟨rfl,trivial⟩ (kE4 rfl rfl rfl rfl trivial) (kL5 rfl rfl rfl rfl rfl trivial))))))))
 refine xpG rfl (xmf rfl (xo rfl (xo rfl (xo rfl (xo rfl (xpF rfl (TL.bsN 9 [_] (encB false) zbM zoe ⟨rfl,trivial⟩ rfl (lit1 rfl) rfl rfl (fun bk9=>⟨trivial,?_⟩))))))))
 refine TL.appS 5 9 (d2:=#[false]) rfl (rfl) rfl (fun _=>rfl) rfl rfl (row1 rfl) zhU (by decide) zdX (by rw [zhh]; simp; omega) rfl rfl (fun v10=>⟨trivial,?_⟩)
 refine TL.conseq 5 (B:=ownA encB 1 4 v10 (((List.range (x+1)).map fun j:Nat=>ze6 l (bmem l false σ2) (j:Int)).toArray)) rfl (fun h hh=>by rw [←zhg,show ze6 l (bmem l false σ2) (x:Int)=(false) from by unfold ze6; simp [*]]; exact hh) trivial (xav rfl (dI (xmi rfl (TL.add (((x+1:Nat):Int)) rfl rfl (wrN (by omega)) rfl rfl (xai rfl (TL.done (TQ.roundK ((x+1,_)) ⟨(show ((x+1:Nat):Int)≤l.nodes+1 by omega),(show (l.nodes+1).toNat - (x+1)<(l.nodes+1).toNat - x by omega)⟩ ⟨rfl,rfl,trivial⟩ ⟨rfl,trivial⟩ (kE4 rfl rfl rfl rfl trivial) (kL5 rfl rfl rfl rfl rfl trivial))))))))
 refine xmf rfl (xo rfl (xo rfl (xo rfl (xpF rfl (xmf rfl (xo rfl (xo rfl (xo rfl ?_))))))))
 refine xo rfl (xpF rfl (TL.bsN 11 [_] (encB false) zbM zoe ⟨rfl,trivial⟩ rfl (lit1 rfl) rfl rfl (fun bk11=>⟨trivial,?_⟩)))
 refine TL.appS 5 11 (d2:=#[false]) rfl (rfl) rfl (fun _=>rfl) rfl rfl (row1 rfl) zhU (by decide) zdX (by rw [zhh]; simp; omega) rfl rfl (fun v12=>⟨trivial,?_⟩)
 refine TL.conseq 5 (B:=ownA encB 1 4 v12 (((List.range (x+1)).map fun j:Nat=>ze6 l (bmem l false σ2) (j:Int)).toArray)) rfl (fun h hh=>by rw [←zhg,show ze6 l (bmem l false σ2) (x:Int)=(false) from by unfold ze6; simp [*]]; exact hh) trivial (xav rfl (dI (xmi rfl (TL.add (((x+1:Nat):Int)) rfl rfl (wrN (by omega)) rfl rfl (xai rfl (TL.done (TQ.roundK ((x+1,_)) ⟨(show ((x+1:Nat):Int)≤l.nodes+1 by omega),(show (l.nodes+1).toNat - (x+1)<(l.nodes+1).toNat - x by omega)⟩ ⟨rfl,rfl,trivial⟩ ⟨rfl,trivial⟩ (kE4 rfl rfl rfl rfl trivial) (kL5 rfl rfl rfl rfl rfl trivial))))))))
 refine dE rfl (TC.seq (TC.draw [(0,true),(1,true),(2,true),(3,true),(4,true),(7,true),(8,true),(5,false),(6,true),(9,false)] [1,2] fc_m (by kernel_rfl) (TL.bld [.int .i64 0,.int .i64 0] [(.int _ _),(.int _ _)] [_,_] zj5 zmq ⟨rfl,rfl,trivial⟩ ⟨rfl,rfl⟩ rfl rfl (xmp rfl (xN0 rfl (xf 3 zdc rfl (xlp 2 zgc rfl rfl (xf 0 zaJ rfl ?_))))))))
 refine xL3 1 zaa rfl rfl (TL.callD [] [] zcS ⟨rfl,trivial⟩ trivial zfx rfl rfl rfl rfl rfl (kL2 rfl rfl trivial) (TL.miN (v:=(.agg _)) rfl zdL rfl rfl (TL.callD [3] [3] (ze7 (p:=⟨1,1⟩) zbl (zbi) hl) ⟨rfl,rfl,rfl,trivial⟩ ⟨rfl,trivial⟩ zmv rfl rfl rfl rfl rfl (kL2 rfl rfl trivial) (dB (xai rfl (dK (TC.loopK (X:=Nat) [3,7,8,9] [0,1,2,3,5] (fun k=>[(13,.int .i64 ((k:Nat):Int))]) (fun k=>[(4,zaz 157 189 cb l (Go.Tm.runN l (za5 l ⟨1,1⟩ (bmem l false σ2) 1 true) k (Go.Tm.runN l (bmem l false σ2) i (zaT l v))))]) (fun k=>k<N) (fun k=>N - k) (0) (by omega) ⟨rfl,trivial⟩ ⟨rfl,trivial⟩ (fun k hI=>?_))))))))
 refine TC.sub (env':=[(13,_),(3,_),(7,_),(8,_),(9,_)]) (L':=[(4,_),(0,_),(1,_),(2,_),(3,_),(5,_)]) ⟨rfl,rfl,rfl,rfl,rfl,trivial⟩ ⟨rfl,rfl,rfl,rfl,rfl,rfl,trivial⟩ (sB (xmp rfl (xmp rfl (xN0 rfl (xf 3 zdc rfl (xlp 2 zgc rfl rfl (TL.callD [4,3] [4,3] (ziC hl) ⟨rfl,rfl,trivial⟩ ⟨rfl,rfl,trivial⟩ zkd rfl rfl rfl rfl rfl trivial ?_)))))))
 rw [←zcH]
 refine TL.cases rfl (fun q8=>?_) (fun q8=>?_)
 refine xnt rfl (dE rfl (TC.seq ?_))
 obtain rfl:k+1=N:=by
   rcases Nat.lt_or_ge (k+1) N with h | h
   ·have:=hE.go _ h; simp_all
   ·omega
 obtain ⟨rn,rfl⟩:=Int.eq_ofNat_of_zero_le (show 0≤r by omega)
 refine TC.ownW 5 rfl (fun a8 g8 c8 hv8 hc8 ha8=>?_)
 subst hv8
 refine TC.region (xmp rfl (TL.callD [4] [4] zki ⟨rfl,trivial⟩ ⟨rfl,trivial⟩ zoX rfl rfl rfl rfl rfl trivial ?_))
 rw [hE.root_]
 refine xai rfl (dB (xmi rfl (TL.lssF rfl rfl (by omega) rfl rfl (xmf rfl (xmi rfl (xmv rfl (xz zbM rfl (TL.geqF rfl rfl (by simp; omega) rfl rfl ?_))))))))
 refine xpF rfl (dF rfl (xmv rfl (xmi rfl (TL.iaO rfl ha8 rfl zbM (by simp; omega) rfl rfl (TL.ldRS 5 (.bool _) rfl rfl (zf2 ha8) (by simp; omega) (rfl) zbS rfl rfl (xmb rfl (TL.cases rfl (fun q9=>?_) (fun q9=>?_))))))))
 refine xo rfl (xo rfl (xo rfl (xo rfl (xpT rfl (xmt rfl (xmp rfl (TL.callD [4] [4] zet ⟨rfl,trivial⟩ ⟨rfl,trivial⟩ zmu rfl rfl rfl rfl rfl trivial (xmp rfl ?_))))))))
 refine xmi rfl (TL.callD [2,3] [2,3] (zdV hl) ⟨rfl,rfl,rfl,trivial⟩ ⟨rfl,rfl,trivial⟩ zkc rfl rfl rfl rfl rfl trivial (TL.eqlT rfl rfl hE.ver rfl rfl (xpT rfl (xmt rfl (TL.callD [] [] zbQ trivial trivial zfy rfl rfl rfl rfl rfl trivial (xpT rfl (xat rfl (dR ?_))))))))
 refine FQ.ret1 (v:=(.bool true)) (Bs:=[_]) [0] rfl rfl rfl ⟨rfl,trivial⟩ ?_
 exact ⟨rfl,rfl⟩
 refine xmp rfl (xmi rfl (TL.callD [2,3] [2,3] (zdV hl) ⟨rfl,rfl,rfl,trivial⟩ ⟨rfl,rfl,trivial⟩ zkc rfl rfl rfl rfl rfl trivial (TL.eqlT rfl rfl (hro.resolve_left (fun h=>Bool.noConfusion ((((zpp (fun j:Nat=>ze6 l (bmem l false σ2) (j:Int)) (n:=x) (i:=rn) (by omega)).trans h).symm.trans (by assumption))))) rfl rfl (xpH rfl (xmt rfl (xmp rfl (TL.callD [4] [4] zet ⟨rfl,trivial⟩ ⟨rfl,trivial⟩ zmu rfl rfl rfl rfl rfl trivial (xmp rfl ?_))))))))
 refine xmi rfl (TL.callD [2,3] [2,3] (zdV hl) ⟨rfl,rfl,rfl,trivial⟩ ⟨rfl,rfl,trivial⟩ zkc rfl rfl rfl rfl rfl trivial (TL.eqlT rfl rfl hE.ver rfl rfl (xpT rfl (xmt rfl (TL.callD [] [] zbQ trivial trivial zfy rfl rfl rfl rfl rfl trivial (xpT rfl (xat rfl (dR ?_))))))))
 refine FQ.ret1 (v:=(.bool true)) (Bs:=[_]) [0] rfl rfl rfl ⟨rfl,trivial⟩ ?_
 exact ⟨rfl,rfl⟩
 refine xnf rfl (TL.done (TQ.then (TC.condT rfl (TC.skip (TQ.then (TC.seq (TC.block (TC.seq ?_))))))))
 have hkN:k+1<N:=by
   rcases Nat.lt_or_ge (k+1) N with h | h
   ·exact h
   ·obtain rfl:k+1=N:=by omega
    have:=hE.dn; simp_all
 refine TC.region (xmi rfl (xf 0 zaJ rfl (xL3 1 zaa rfl rfl (TL.callD [] [] (zcA hl) ⟨rfl,trivial⟩ trivial zeV rfl rfl rfl rfl rfl trivial (TL.mul _ rfl rfl (wr64 (by omega)) rfl rfl (TL.add _ rfl rfl (wr64 (by omega)) rfl rfl (TL.gtrF rfl rfl (by omega) rfl rfl (TL.done ?_))))))))
 refine TQ.then (TC.condF rfl (TC.skip (TQ.inBlock (TQ.then (TC.region (xmi rfl (TL.add (((k+1:Nat):Int)) rfl rfl (wrN (by omega)) rfl rfl (xai rfl ?_))))))))
 refine TL.done (TQ.roundK (k+1) ⟨hkN,(by omega)⟩ ⟨rfl,trivial⟩ ⟨rfl,trivial⟩ (kE4 rfl rfl rfl rfl trivial) (kL5 rfl rfl rfl rfl rfl trivial))
end Go.Proofs.YtjnpjkfliochbaaGreat
