import Derived.Test.YtjnpjkfliochbaaGreatConA
set_option linter.unusedVariables false
set_option linter.unusedSimpArgs false
set_option maxRecDepth 20000
namespace Go.Proofs.YtjnpjkfliochbaaGreat
open Go.Eng Go.Tm
theorem zfJ {S:Type} [MemLike S] {mt:TypeId} {mv:Value} {A:S→Assn} (hM:MemI Tryz.prog mt mv A) {l:Lay} (hl:l.Ok) {p:Pen} {σ:S} {x y:Int} (hy:0≤y∧y<18446744073709551616)  : FnD Tryz.prog 94 [zaW l mt mv p,.int .i64 x,.int .u64 y] [A σ] (.tuple #[]) [A (zdN l p σ x y)]:=by
 refine Fn.enter (Tryz.func94) rfl rfl (fun w0 R=>?_)
 refine sA (xB 1 rfl (fun bk1=>(dS (TC.draw [(0,true),(1,true),(2,true),(3,true),(4,true),(6,true),(7,true),(8,true),(5,false),(9,false)] [1] fc_m (by kernel_rfl) (xf 3 zaU rfl (xlc 1 zbj rfl rfl (xf 0 zax rfl (xL3 1 zaa rfl rfl (xmi rfl ?_)))))))))
 refine xmi rfl (TL.ncI rfl rfl rfl (xmc rfl (TL.callD [] [] (zaP hl) ⟨rfl,rfl,rfl,trivial⟩ trivial zbH rfl rfl rfl rfl rfl (kL1 rfl trivial) (TL.mstore 0 hM rfl rfl rfl (by first | exact hy | decide) rfl rfl rfl (kL1 rfl trivial) (dA (xL6 1 zab rfl rfl (xmi rfl (TL.callD [0] [0] (zeY hM hl) ⟨rfl,rfl,trivial⟩ ⟨rfl,trivial⟩ zgr rfl rfl rfl rfl rfl trivial ?_))))))))
 refine dS (TC.draw [(0,true),(1,true),(2,true),(3,true),(4,true),(5,true),(6,true),(7,false),(8,false)] [1] fc_m (by kernel_rfl) (xf 4 zg2 rfl (xL2 1 zbB rfl rfl (xf 3 zaU rfl (xlc 1 zbj rfl rfl (xf 0 zax rfl (xL3 1 zaa rfl rfl (xmi rfl ?_))))))))
 refine TL.callD [] [] (zaP hl) ⟨rfl,rfl,rfl,trivial⟩ trivial zbH rfl rfl rfl rfl rfl (kL1 rfl trivial) (TL.callD [0] [0] (zko hM) ⟨rfl,rfl,rfl,trivial⟩ ⟨rfl,trivial⟩ zo2 rfl rfl rfl rfl rfl (kL1 rfl trivial) (dA (xai rfl (dB (xf 0 zax rfl (xL3 1 zaa rfl rfl (xmi rfl (TL.callD [] [] (zei hl) ⟨rfl,rfl,trivial⟩ trivial zgk rfl rfl rfl rfl rfl trivial ?_))))))))
 refine xmu rfl (TL.ext (.agg _) rfl rfl rfl rfl (TL.ext (.bool _) rfl rfl rfl rfl (TL.alloc 2 (cs:=#[.bool false,.int .i64 0,.int .i64 0,.int .i64 0,.int .i64 0]) zdE rfl rfl rfl (fun _=>trivial) (fun bk2=>(TL.stW 2 5 [_,_,_,_,_] rfl rfl rfl rfl rfl rfl zbz rfl rfl trivial (xab rfl (dA (xf 0 zgX rfl (xlb 2 zb3 rfl rfl ?_)))))))))
 refine TL.not _ _ rfl rfl rfl rfl (xmb rfl (TL.cases rfl (fun q1=>?_) (fun q1=>?_)))
 refine xf 1 zdV rfl (xli 2 zaf rfl rfl (TL.eql rfl rfl rfl rfl (fun q2=>?_) (fun q2=>?_)))
 refine xpT rfl (TL.done (TQ.then (TC.condT rfl (TC.region (xai rfl (TL.done (TQ.then (TC.draw [(0,true),(1,true),(2,true),(3,true),(4,true),(6,true),(7,true),(8,true),(5,false),(9,false)] [1] fc_m (by kernel_rfl) ?_))))))))
 refine xf 3 zaU rfl (xlc 1 zbj rfl rfl (xf 0 zax rfl (xL3 1 zaa rfl rfl (xmi rfl (xmi rfl (TL.ncI rfl rfl rfl (xmc rfl (TL.callD [] [] (zaP hl) ⟨rfl,rfl,rfl,trivial⟩ trivial zbH rfl rfl rfl rfl rfl (kL1 rfl trivial) ?_))))))))
 refine TL.mstore 0 hM rfl rfl rfl (by first | exact hy | decide) rfl rfl rfl (kL1 rfl trivial) (TL.done ?_)
 refine FQ.end0 (Bs:=[A _]) [0] rfl rfl ⟨rfl,trivial⟩ ?_
 exact ⟨rfl,by unfold zdN ze8; rw [if_pos ⟨by simpa using q1,q2⟩]⟩
 refine xpG rfl (TL.done (TQ.then (TC.condF rfl (TC.skip (TQ.then (TC.draw [(0,true),(1,true),(2,true),(3,true),(4,true),(6,true),(7,true),(8,true),(5,false),(9,false)] [1] fc_m (by kernel_rfl) (xf 3 zaU rfl (xlc 1 zbj rfl rfl ?_))))))))
 refine xf 0 zax rfl (xL3 1 zaa rfl rfl (xmi rfl (xmi rfl (TL.ncI rfl rfl rfl (xmc rfl (TL.callD [] [] (zaP hl) ⟨rfl,rfl,rfl,trivial⟩ trivial zbH rfl rfl rfl rfl rfl (kL1 rfl trivial) (TL.mstore 0 hM rfl rfl rfl (by first | exact hy | decide) rfl rfl rfl (kL1 rfl trivial) (TL.done ?_))))))))
 refine FQ.end0 (Bs:=[A _]) [0] rfl rfl ⟨rfl,trivial⟩ ?_
 exact ⟨rfl,by unfold zdN ze8; rw [if_neg (fun h=>q2 h.2)]⟩
 refine xo rfl (xo rfl (xo rfl (xpF rfl (TL.done (TQ.then (TC.condF rfl (TC.skip (TQ.then ?_))))))))
 refine TC.draw [(0,true),(1,true),(2,true),(3,true),(4,true),(6,true),(7,true),(8,true),(5,false),(9,false)] [1] fc_m (by kernel_rfl) (xf 3 zaU rfl (xlc 1 zbj rfl rfl (xf 0 zax rfl (xL3 1 zaa rfl rfl (xmi rfl (xmi rfl (TL.ncI rfl rfl rfl (xmc rfl ?_))))))))
 refine TL.callD [] [] (zaP hl) ⟨rfl,rfl,rfl,trivial⟩ trivial zbH rfl rfl rfl rfl rfl (kL1 rfl trivial) (TL.mstore 0 hM rfl rfl rfl (by first | exact hy | decide) rfl rfl rfl (kL1 rfl trivial) (TL.done ?_))
 refine FQ.end0 (Bs:=[A _]) [0] rfl rfl ⟨rfl,trivial⟩ ?_
 exact ⟨rfl,by unfold zdN ze8; rw [if_neg (fun h=>by rw [h.1] at q1; cases q1)]⟩
theorem zkq {l:Lay} (hl:l.Ok) {a:Option Addr} {b off dn dc:Nat} {Ad:Assn} {fd:Nat→Int} (ha:0<dn→a=some ⟨b,off,none⟩) (hAd:zbc Ad encU 1 b off dn fd) (hfd:∀ i,i<dn→0≤fd i∧fd i<18446744073709551616) (hdn:dn≤256)  : Go.Eng.Fn Tryz.prog 35 [layV l,.slice a dn dc] [Ad] (fun v Bs=>∃ ab mb,v=.tuple #[.pointer (some ⟨ab,0,none⟩),.int .i64 0]∧Bs=[Ad,zaF ab mb 140 71 (ziL l dn fd (Array.replicate l.cells.toNat 0))]):=by
 obtain ⟨N,hN⟩:∃ N:Nat,l.cells=(N:Int):=⟨l.cells.toNat,by have:=zdM hl; have:=zaK hl; have:=zbT hl; have:=zbE hl; omega⟩
 have hN2:l.cells.toNat=N:=by omega
 have hcb:=zdM hl
 have hnb:=zaK hl
 refine Fn.enter (Tryz.func35) rfl rfl (fun w0 R=>?_)
 refine sA (xB 1 rfl (fun bk1=>(TL.asg (.pointer none) rfl rfl rfl (xai rfl (dS (TC.block (sA (xL3 1 zaa rfl rfl (TL.callD [] [] (zlZ hl) ⟨rfl,trivial⟩ trivial zrq rfl rfl rfl rfl rfl trivial ?_)))))))))
 refine xnt rfl (xaf rfl (TL.done (TQ.then (TC.condF rfl (sA (xms rfl (xz zaG rfl (TL.gtrF rfl rfl (by omega) rfl rfl ?_))))))))
 refine xaf rfl (TL.done (TQ.then (TC.condF rfl (TC.skip (TQ.inBlock (TQ.then (sA (xL3 1 zaa rfl rfl ?_))))))))
 refine TL.callD [] [] (zkp hl) ⟨rfl,trivial⟩ trivial zo8 rfl rfl rfl rfl rfl trivial ?_
 rw [hN]
 refine TL.call [] [2] (zqD (by omega)) ⟨rfl,trivial⟩ trivial zrp rfl rfl rfl rfl ?_
 rintro v Bs ⟨ab,mb,rfl,rfl⟩
 refine ⟨rfl,trivial,?_⟩
 rw [←hN2]
 refine TL.conseq 2 (B:=zaF ab mb 140 71 (Array.replicate l.cells.toNat 0)) rfl (fun h hh=>zh3 hh) trivial (xmu rfl (TL.ext (.pointer (some ⟨_,_,none⟩)) rfl rfl rfl rfl (xei rfl rfl (xap rfl (xai rfl (dB (xmi rfl (TL.neqF rfl rfl (by omega) rfl rfl ?_))))))))
 refine TL.done (TQ.then (TC.condF rfl (TC.skip (TQ.then (TC.seq (TC.draw [(0,true),(3,true),(1,false),(2,true),(4,false)] [1] fc_m (by kernel_rfl) (xmp rfl (xL3 1 zaa rfl rfl ?_))))))))
 refine TL.callD [] [] zdT ⟨rfl,trivial⟩ trivial zg5 rfl rfl rfl rfl rfl (kL1 rfl trivial) (TL.miN (v:=(.agg _)) rfl zeT rfl rfl (TL.callD [2] [2] (znR zbC (zbL) hl) ⟨rfl,rfl,trivial⟩ ⟨rfl,trivial⟩ zro rfl rfl rfl rfl rfl (kL1 rfl trivial) (dS (TC.drawT (.br [(0,true),(1,true),(4,true)] 2 6 (.fin [(3,true),(5,true),(6,false),(7,false)]) (.fin [(2,false),(3,true),(5,true),(7,false)])) [1] fc_m (by kernel_rfl) (TT.br (xL3 1 zaa rfl rfl (xmp rfl (TL.bld [.int .i64 0,.int .i64 0] [(.int _ _)] [_,_] zmp zo0 ⟨rfl,trivial⟩ ⟨rfl,rfl⟩ rfl rfl (TL.both ?_ ?_)))))))))
 refine TL.callD [] [] zdT ⟨rfl,trivial⟩ trivial zg5 rfl rfl rfl rfl rfl (kL1 rfl trivial) (TL.tree (TT.fin (TL.miN (v:=(.agg _)) rfl zeT rfl rfl (TL.bld [.int .i64 0,.int .i64 0,.int .i64 0,.nilIface,.int .i64 0,.int .i64 0] [(.agg _),(.iface _ _),(.agg _)] [_,_,_,_,_,_] ziC zmt ⟨rfl,rfl,rfl,trivial⟩ ⟨rfl,rfl⟩ rfl rfl (TL.alloc 3 (cs:=#[.int .i64 0,.int .i64 0,.int .i64 0,.nilIface,.int .i64 0,.int .i64 0]) ziC rfl rfl rfl (fun _=>(kL1 rfl trivial)) (fun bk3=>(TL.stW 3 6 [_,_,_,_,_,_] rfl rfl rfl rfl rfl rfl zab rfl rfl (kL1 rfl trivial) (dB (xai rfl (dK ?_))))))))))
 refine TC.loopK (X:=Nat) [1,2,4,5,6,8] [0,1,3] (fun x=>[(9,.int .i64 ((x+1:Nat):Int))]) (fun x=>[(2,zaF ab mb 140 71 (zcr l dn fd x (zfz l (Array.replicate l.cells.toNat 0))))]) (fun x=>(x:Int)≤l.nodes) (fun x=>l.nodes.toNat - x) (0) (by omega) ⟨rfl,trivial⟩ ⟨rfl,trivial⟩ (fun x hI=>(TC.sub (env':=[(9,_),(1,_),(2,_),(4,_),(5,_),(6,_),(8,_)]) (L':=[(2,_),(0,_),(1,_),(3,_)]) ⟨rfl,rfl,rfl,rfl,rfl,rfl,rfl,trivial⟩ ⟨rfl,rfl,rfl,rfl,trivial⟩ (sB (xmi rfl (xL3 1 zaa rfl rfl (TL.callD [] [] (zch hl) ⟨rfl,trivial⟩ trivial zea rfl rfl rfl rfl rfl trivial (TL.leq rfl rfl rfl rfl (fun q1=>?_) (fun q1=>?_))))))))
 refine TL.done (TQ.then (TC.condT rfl (TC.skip (TQ.then (TC.seq (TC.block (sA (xai rfl ?_))))))))
 refine dB (xms rfl (xz zaG rfl (TL.gtr rfl rfl rfl rfl (fun q2=>?_) (fun q2=>?_))))
 refine TL.done (TQ.then (TC.condT rfl (TC.region (xms rfl (xmi rfl (xms rfl (xz zaG rfl (TL.rem ((((x+1) % dn:Nat):Int)) rfl rfl (by omega) (by rw [Int.tmod_eq_emod_of_nonneg (by omega)]; exact (Int.natCast_emod (x+1) dn).symm) rfl rfl ?_))))))))
 refine TL.iaO rfl ha rfl zaG (Nat.mod_lt _ (by omega)) rfl rfl (TL.ldRS 0 (.int _ _) rfl rfl hAd (Nat.mod_lt _ (by omega)) (rfl) zkb rfl rfl (xai rfl (dG (xL6 3 zab rfl rfl (xmi rfl (xmi rfl (TL.callD [2] [2] (zfJ (p:=P1) zbC hl (by first | exact hfd _ (Nat.mod_lt _ (by omega)) | decide)) ⟨rfl,rfl,rfl,trivial⟩ ⟨rfl,trivial⟩ zkd rfl rfl rfl rfl rfl trivial (dI ?_))))))))
 refine xmi rfl (TL.add (((x+2:Nat):Int)) rfl rfl (wrN (by omega)) rfl rfl (xai rfl (TL.done (TQ.roundK (x+1) ⟨(by omega),(by omega)⟩ ⟨rfl,trivial⟩ ⟨congrArg (fun z=>some (zaF ab mb 140 71 (z))) (zg7 (by omega)),trivial⟩ (kE6 rfl rfl rfl rfl rfl rfl trivial) (kL3 rfl rfl rfl trivial)))))
 refine TL.done (TQ.then (TC.condF rfl (TC.skip (TQ.then (TC.region (xL6 3 zab rfl rfl (xmi rfl (xmi rfl ?_))))))))
 refine TL.callD [2] [2] (zfJ (p:=P1) zbC hl (by first | exact hfd _ (Nat.mod_lt _ (by omega)) | decide)) ⟨rfl,rfl,rfl,trivial⟩ ⟨rfl,trivial⟩ zkd rfl rfl rfl rfl rfl trivial (dI (xmi rfl (TL.add (((x+2:Nat):Int)) rfl rfl (wrN (by omega)) rfl rfl (xai rfl (TL.done (TQ.roundK (x+1) ⟨(by omega),(by omega)⟩ ⟨rfl,trivial⟩ ⟨congrArg (fun z=>some (zaF ab mb 140 71 (z))) (zgu (by omega)),trivial⟩ (kE6 rfl rfl rfl rfl rfl rfl trivial) (kL3 rfl rfl rfl trivial)))))))
 refine dE rfl (sA (xmp rfl (xap rfl (xai rfl (dR ?_)))))
 refine FQ.ret2 (v:=(.pointer (some ⟨_,_,none⟩))) (x:=(.int _ _)) (Bs:=[Ad,_]) [0,2] rfl rfl rfl rfl ⟨rfl,rfl,trivial⟩ ?_
 obtain rfl:x=l.nodes.toNat:=by omega
 exact ⟨_,_,rfl,rfl⟩
 refine TL.alloc 4 (cs:=#[.int .i64 0,.int .i64 0,.int .i64 0,.nilIface,.int .i64 0,.int .i64 0]) ziC rfl rfl rfl (fun _=>(kL1 rfl trivial)) (fun bk4=>(TL.tree (TT.fin (TL.callD [] [] zdT ⟨rfl,trivial⟩ trivial zg5 rfl rfl rfl rfl rfl (kL1 rfl trivial) (TL.miN (v:=(.agg _)) rfl zeT rfl rfl (TL.bld [.int .i64 0,.int .i64 0,.int .i64 0,.nilIface,.int .i64 0,.int .i64 0] [(.agg _),(.iface _ _),(.agg _)] [_,_,_,_,_,_] ziC zmt ⟨rfl,rfl,rfl,trivial⟩ ⟨rfl,rfl⟩ rfl rfl (TL.stW 4 6 [_,_,_,_,_,_] rfl rfl rfl rfl rfl rfl zab rfl rfl (kL1 rfl trivial) (dB (xai rfl (dK ?_))))))))))
 refine TC.loopK (X:=Nat) [1,2,4,5,6,8] [0,1,4] (fun x=>[(9,.int .i64 ((x+1:Nat):Int))]) (fun x=>[(2,zaF ab mb 140 71 (zcr l dn fd x (zfz l (Array.replicate l.cells.toNat 0))))]) (fun x=>(x:Int)≤l.nodes) (fun x=>l.nodes.toNat - x) (0) (by omega) ⟨rfl,trivial⟩ ⟨rfl,trivial⟩ (fun x hI=>(TC.sub (env':=[(9,_),(1,_),(2,_),(4,_),(5,_),(6,_),(8,_)]) (L':=[(2,_),(0,_),(1,_),(4,_)]) ⟨rfl,rfl,rfl,rfl,rfl,rfl,rfl,trivial⟩ ⟨rfl,rfl,rfl,rfl,trivial⟩ (sB (xmi rfl (xL3 1 zaa rfl rfl (TL.callD [] [] (zch hl) ⟨rfl,trivial⟩ trivial zea rfl rfl rfl rfl rfl trivial (TL.leq rfl rfl rfl rfl (fun q1=>?_) (fun q1=>?_))))))))
 refine TL.done (TQ.then (TC.condT rfl (TC.skip (TQ.then (TC.seq (TC.block (sA (xai rfl ?_))))))))
 refine dB (xms rfl (xz zaG rfl (TL.gtr rfl rfl rfl rfl (fun q2=>?_) (fun q2=>?_))))
 refine TL.done (TQ.then (TC.condT rfl (TC.region (xms rfl (xmi rfl (xms rfl (xz zaG rfl (TL.rem ((((x+1) % dn:Nat):Int)) rfl rfl (by omega) (by rw [Int.tmod_eq_emod_of_nonneg (by omega)]; exact (Int.natCast_emod (x+1) dn).symm) rfl rfl ?_))))))))
 refine TL.iaO rfl ha rfl zaG (Nat.mod_lt _ (by omega)) rfl rfl (TL.ldRS 0 (.int _ _) rfl rfl hAd (Nat.mod_lt _ (by omega)) (rfl) zkb rfl rfl (xai rfl (dG (xL6 4 zab rfl rfl (xmi rfl (xmi rfl (TL.callD [2] [2] (zfJ (p:=P1) zbC hl (by first | exact hfd _ (Nat.mod_lt _ (by omega)) | decide)) ⟨rfl,rfl,rfl,trivial⟩ ⟨rfl,trivial⟩ zkd rfl rfl rfl rfl rfl trivial (dI ?_))))))))
 refine xmi rfl (TL.add (((x+2:Nat):Int)) rfl rfl (wrN (by omega)) rfl rfl (xai rfl (TL.done (TQ.roundK (x+1) ⟨(by omega),(by omega)⟩ ⟨rfl,trivial⟩ ⟨congrArg (fun z=>some (zaF ab mb 140 71 (z))) (zg7 (by omega)),trivial⟩ (kE6 rfl rfl rfl rfl rfl rfl trivial) (kL3 rfl rfl rfl trivial)))))
 refine TL.done (TQ.then (TC.condF rfl (TC.skip (TQ.then (TC.region (xL6 4 zab rfl rfl (xmi rfl (xmi rfl ?_))))))))
 refine TL.callD [2] [2] (zfJ (p:=P1) zbC hl (by first | exact hfd _ (Nat.mod_lt _ (by omega)) | decide)) ⟨rfl,rfl,rfl,trivial⟩ ⟨rfl,trivial⟩ zkd rfl rfl rfl rfl rfl trivial (dI (xmi rfl (TL.add (((x+2:Nat):Int)) rfl rfl (wrN (by omega)) rfl rfl (xai rfl (TL.done (TQ.roundK (x+1) ⟨(by omega),(by omega)⟩ ⟨rfl,trivial⟩ ⟨congrArg (fun z=>some (zaF ab mb 140 71 (z))) (zgu (by omega)),trivial⟩ (kE6 rfl rfl rfl rfl rfl rfl trivial) (kL3 rfl rfl rfl trivial)))))))
 refine dE rfl (sA (xmp rfl (xap rfl (xai rfl (dR ?_)))))
 refine FQ.ret2 (v:=(.pointer (some ⟨_,_,none⟩))) (x:=(.int _ _)) (Bs:=[Ad,_]) [0,2] rfl rfl rfl rfl ⟨rfl,rfl,trivial⟩ ?_
 obtain rfl:x=l.nodes.toNat:=by omega
 exact ⟨_,_,rfl,rfl⟩
theorem zjF {l:Lay} (hl:l.Ok) {v:Int}:Go.Eng.Fn Tryz.prog 39 [layV l,.int .i64 v] [] (fun x Bs=>∃ cb,x=.pointer (some ⟨cb,0,none⟩)∧Bs=[zaB 157 189 cb l (zaM l v)]):=by
 refine Fn.enter (Tryz.func39) rfl rfl (fun w0 R=>?_)
 refine sA (xB 0 rfl (fun bk0=>(TL.asg (.pointer none) rfl rfl rfl (dA (xL3 0 zaa rfl rfl (xmi rfl (TL.callD [] [] (zcC hl) ⟨rfl,rfl,rfl,trivial⟩ trivial zgj rfl rfl rfl rfl rfl trivial (xai rfl (dS ?_)))))))))
 refine TC.draw [(0,true),(1,true),(2,true),(3,true),(4,true),(5,false),(6,false),(7,true),(8,false),(9,true)] [0] fc_m (by kernel_rfl) (xL3 0 zaa rfl rfl (xmi rfl (xL3 0 zaa rfl rfl (xL3 0 zaa rfl rfl (xmi rfl (TL.callD [] [] (zaP hl) ⟨rfl,rfl,rfl,trivial⟩ trivial zbH rfl rfl rfl rfl rfl (kL1 rfl trivial) (TL.call [] [1] zdS ⟨rfl,rfl,trivial⟩ trivial zkc rfl rfl rfl rfl ?_)))))))
 rintro v Bs ⟨lb,rfl,rfl⟩
 refine ⟨rfl,(kL1 rfl trivial),?_⟩
 refine TL.bld [.int .i64 0,.int .i64 0,.int .i64 0,.int .i64 0,.pointer none,.bool false,.bool false,.int .i64 0,.int .i64 0] [(.agg _),(.int _ _),(.pointer (some ⟨_,_,none⟩))] [_,_,_,_,_,_,_,_,_] zpZ zp3 ⟨rfl,rfl,rfl,trivial⟩ ⟨rfl,rfl⟩ rfl rfl (TL.boxA 2 rfl rfl rfl (fun _=>(kL1 rfl trivial)) (fun bk2=>(xap rfl (dR (TQ.close 2 1 (zaB 157 189 _ l (zaM l v)) (by decide) rfl rfl (fun _ _ _ s1 s2 hd h1 h2=>zar s1 s2 hd h1 h2) ?_)))))
 refine FQ.ret1 (v:=(.pointer (some ⟨_,_,none⟩))) (Bs:=[_]) [2] rfl rfl rfl ⟨rfl,trivial⟩ ?_
 exact ⟨_,rfl,rfl⟩
theorem zh1 {l:Lay} {cb:Nat} {c:ClimbS}:FnD Tryz.prog 46 [.pointer (some ⟨cb,0,none⟩)] [zaB 157 189 cb l (c)] (.bool c.done) [zaB 157 189 cb l (c)]:=by
 refine Fn.enter (Tryz.func46) rfl rfl (fun w0 R=>?_)
 refine sA (xaf rfl (dS (TC.openE 0 rfl (fun lb=>(TC.openS 0 1 rfl (by decide) (TC.region (xmp rfl (xN0 rfl (xf 6 zbu rfl ?_)))))))))
 refine xlb 0 zb3 rfl rfl (xab rfl (dR (TQ.close 0 1 (zaB 157 189 cb l (c)) (by decide) rfl rfl (fun _ _ _ s1 s2 hd h1 h2=>zar s1 s2 hd h1 h2) ?_)))
 refine FQ.ret1 (v:=(.bool _)) (Bs:=[_]) [0] rfl rfl rfl ⟨rfl,trivial⟩ ?_
 exact ⟨rfl,rfl⟩
theorem zeq {l:Lay} {cb:Nat} {c:ClimbS}:FnD Tryz.prog 50 [.pointer (some ⟨cb,0,none⟩)] [zaB 157 189 cb l (c)] (.int .i64 c.version) [zaB 157 189 cb l (c)]:=by
 refine Fn.enter (Tryz.func50) rfl rfl (fun w0 R=>?_)
 refine sA (xai rfl (dS (TC.openE 0 rfl (fun lb=>(TC.openS 0 1 rfl (by decide) (TC.region (xmp rfl (xN0 rfl (xf 7 zge rfl ?_)))))))))
 refine xli 0 zaf rfl rfl (xai rfl (dR (TQ.close 0 1 (zaB 157 189 cb l (c)) (by decide) rfl rfl (fun _ _ _ s1 s2 hd h1 h2=>zar s1 s2 hd h1 h2) ?_)))
 refine FQ.ret1 (v:=(.int _ _)) (Bs:=[_]) [0] rfl rfl rfl ⟨rfl,trivial⟩ ?_
 exact ⟨rfl,rfl⟩
theorem zgs {l:Lay} {cb:Nat} {c:ClimbS}:FnD Tryz.prog 52 [.pointer (some ⟨cb,0,none⟩)] [zaB 157 189 cb l (c)] (.int .i64 c.step) [zaB 157 189 cb l (c)]:=by
 refine Fn.enter (Tryz.func52) rfl rfl (fun w0 R=>?_)
 refine sA (xai rfl (dS (TC.openE 0 rfl (fun lb=>(TC.openS 0 1 rfl (by decide) (TC.region (xmp rfl (xN0 rfl (xf 8 zel rfl ?_)))))))))
 refine xli 0 zaf rfl rfl (xai rfl (dR (TQ.close 0 1 (zaB 157 189 cb l (c)) (by decide) rfl rfl (fun _ _ _ s1 s2 hd h1 h2=>zar s1 s2 hd h1 h2) ?_)))
 refine FQ.ret1 (v:=(.int _ _)) (Bs:=[_]) [0] rfl rfl rfl ⟨rfl,trivial⟩ ?_
 exact ⟨rfl,rfl⟩
theorem zhX {l:Lay} {cb:Nat} {c:ClimbS}:FnD Tryz.prog 41 [.pointer (some ⟨cb,0,none⟩)] [zaB 157 189 cb l (c)] (.int .i64 c.root) [zaB 157 189 cb l (c)]:=by
 refine Fn.enter (Tryz.func41) rfl rfl (fun w0 R=>?_)
 refine sA (xai rfl (dS (TC.seq (TC.openE 0 rfl (fun lb=>(TC.openS 0 1 rfl (by decide) (TC.region (xmp rfl (xN0 rfl ?_)))))))))
 refine xf 6 zbu rfl (xlb 0 zb3 rfl rfl (TL.not _ _ rfl rfl rfl rfl (TL.done (TQ.then (TC.cond rfl (fun q1=>?_) (fun q1=>?_))))))
 refine sA (xai rfl (dRR (TQ.close 0 1 (zaB 157 189 cb l (c)) (by decide) rfl rfl (fun _ _ _ s1 s2 hd h1 h2=>zar s1 s2 hd h1 h2) ?_)))
 refine FQ.ret1 (v:=(.int _ _)) (Bs:=[_]) [0] rfl rfl rfl ⟨rfl,trivial⟩ ?_
 have q:c.done=false:=by simpa using q1
 exact ⟨iE (by unfold ClimbS.root; rw [q]; rfl),rfl⟩
 refine TC.skip (TQ.then (sA (xmp rfl (xN0 rfl (xf 3 zdp rfl (xli 0 zaf rfl rfl (xai rfl (dR ?_))))))))
 refine TQ.close 0 1 (zaB 157 189 cb l (c)) (by decide) rfl rfl (fun _ _ _ s1 s2 hd h1 h2=>zar s1 s2 hd h1 h2) ?_
 refine FQ.ret1 (v:=(.int _ _)) (Bs:=[_]) [0] rfl rfl rfl ⟨rfl,trivial⟩ ?_
 have q:c.done=true:=by simpa using q1
 exact ⟨iE (by unfold ClimbS.root; rw [q]; rfl),rfl⟩
theorem zhW {l:Lay} (hl:l.Ok) {cb ab mb:Nat} {c:ClimbS} {σ:Array UInt64} {n:Cnt}:FnD Tryz.prog 40 [.pointer (some ⟨cb,0,none⟩),.pointer (some ⟨ab,0,none⟩)] [zaB 157 189 cb l (c),arenaC ab mb 140 71 (σ) (n)] (.bool (c.stp l σ).done) [zaB 157 189 cb l (c.stp l σ),arenaC ab mb 140 71 (σ) (c.cnt l σ n)]:=by
 refine Fn.enter (Tryz.func40) rfl rfl (fun w0 R=>?_)
 refine sA (xaf rfl (dS (TC.seq (TC.openE 0 rfl (fun lb=>(TC.openS 0 2 rfl (by decide) (TC.region (xmp rfl (xN0 rfl ?_)))))))))
 refine xf 6 zbu rfl (xlb 0 zb3 rfl rfl (TL.done (TQ.then (TC.cond rfl (fun q1=>?_) (fun q1=>?_)))))
 refine sA (xat rfl (dRR ?_))
 first | refine TQ.close 0 2 (zaB 157 189 cb l (⟨c.node,c.look.step l σ,c.top,true,(c.look.step l σ).value,IntKind.i64.wrap (c.step+1)⟩)) (by decide) rfl rfl (fun _ _ _ s1 s2 hd h1 h2=>zar s1 s2 hd h1 h2) ?_ | refine TQ.close 0 2 (zaB 157 189 cb l (⟨c.node,zbS (l.field c.node 1),true,c.done,c.version,IntKind.i64.wrap (c.step+1)⟩)) (by decide) rfl rfl (fun _ _ _ s1 s2 hd h1 h2=>zar s1 s2 hd h1 h2) ?_ | refine TQ.close 0 2 (zaB 157 189 cb l (⟨(c.look.step l σ).value,zbS (l.field (c.look.step l σ).value 2),c.top,c.done,c.version,IntKind.i64.wrap (c.step+1)⟩)) (by decide) rfl rfl (fun _ _ _ s1 s2 hd h1 h2=>zar s1 s2 hd h1 h2) ?_ | refine TQ.close 0 2 (zaB 157 189 cb l (⟨c.node,c.look.step l σ,c.top,c.done,c.version,IntKind.i64.wrap (c.step+1)⟩)) (by decide) rfl rfl (fun _ _ _ s1 s2 hd h1 h2=>zar s1 s2 hd h1 h2) ?_ | refine TQ.close 0 2 (zaB 157 189 cb l (c)) (by decide) rfl rfl (fun _ _ _ s1 s2 hd h1 h2=>zar s1 s2 hd h1 h2) ?_
 refine FQ.ret1 (v:=(.bool true)) (Bs:=[_,_]) [0,1] rfl rfl rfl ⟨rfl,rfl,trivial⟩ ?_
 exact ⟨by rw [ClimbS.stp_d q1,q1],by rw [ClimbS.stp_d q1,ClimbS.cnt_d q1]⟩
 refine TC.skip (TQ.then (sA (xmp rfl (xN0 rfl (xf 8 zel rfl (xli 0 zaf rfl rfl (TL.add _ rfl rfl (rfl) rfl rfl (xN0 rfl ?_))))))))
 refine xf 8 zel rfl (TL.st 0 #[_,_,_,_,_,_,_,_,_] (.int _ _) rfl rfl rfl rfl rfl rfl zaf rfl rfl trivial (dB (xmp rfl (xN0 rfl (xf 4 zcO rfl (xlp 0 zgb rfl rfl (xmp rfl (TL.callD [2,1] [2,1] (zl3 hl) ⟨rfl,rfl,trivial⟩ ⟨rfl,rfl,trivial⟩ zrn rfl rfl rfl rfl rfl trivial ?_))))))))
 refine TL.cases rfl (fun q2=>?_) (fun q2=>?_)
 refine xnt rfl (dF rfl (xmp rfl (xN0 rfl (xf 4 zcO rfl (xlp 0 zgb rfl rfl (TL.callD [2] [2] zkN ⟨rfl,trivial⟩ ⟨rfl,trivial⟩ zrm rfl rfl rfl rfl rfl trivial (xai rfl (dS ?_))))))))
 refine TC.block (sA (xmp rfl (xN0 rfl (xf 5 zem rfl (xlb 0 zb3 rfl rfl (xab rfl (TL.done (TQ.then ?_))))))))
 refine TC.cond rfl (fun q3=>?_) (fun q3=>?_)
 refine TC.region (xmp rfl (xmp rfl (xmi rfl (xN0 rfl (xf 7 zge rfl (TL.st 0 #[_,_,_,_,_,_,_,_,_] (.int _ _) rfl rfl rfl rfl rfl rfl zaf rfl rfl trivial (xN0 rfl (xf 6 zbu rfl ?_))))))))
 refine TL.st 0 #[_,_,_,_,_,_,_,_,_] (.bool true) rfl rfl rfl rfl rfl rfl zb3 rfl rfl trivial (TL.done (TQ.inBlock (TQ.then (sA (xmp rfl (xN0 rfl (xf 6 zbu rfl (xlt 0 zb3 rfl rfl ?_))))))))
 refine xat rfl (dR ?_)
 first | refine TQ.close 0 2 (zaB 157 189 cb l (⟨c.node,c.look.step l σ,c.top,true,(c.look.step l σ).value,IntKind.i64.wrap (c.step+1)⟩)) (by decide) rfl rfl (fun _ _ _ s1 s2 hd h1 h2=>zar s1 s2 hd h1 h2) ?_ | refine TQ.close 0 2 (zaB 157 189 cb l (⟨c.node,zbS (l.field c.node 1),true,c.done,c.version,IntKind.i64.wrap (c.step+1)⟩)) (by decide) rfl rfl (fun _ _ _ s1 s2 hd h1 h2=>zar s1 s2 hd h1 h2) ?_ | refine TQ.close 0 2 (zaB 157 189 cb l (⟨(c.look.step l σ).value,zbS (l.field (c.look.step l σ).value 2),c.top,c.done,c.version,IntKind.i64.wrap (c.step+1)⟩)) (by decide) rfl rfl (fun _ _ _ s1 s2 hd h1 h2=>zar s1 s2 hd h1 h2) ?_ | refine TQ.close 0 2 (zaB 157 189 cb l (⟨c.node,c.look.step l σ,c.top,c.done,c.version,IntKind.i64.wrap (c.step+1)⟩)) (by decide) rfl rfl (fun _ _ _ s1 s2 hd h1 h2=>zar s1 s2 hd h1 h2) ?_ | refine TQ.close 0 2 (zaB 157 189 cb l (c)) (by decide) rfl rfl (fun _ _ _ s1 s2 hd h1 h2=>zar s1 s2 hd h1 h2) ?_
 refine FQ.ret1 (v:=(.bool true)) (Bs:=[_,_]) [0,1] rfl rfl rfl ⟨rfl,rfl,trivial⟩ ?_
 have d1:c.done=false:=q1
 have d2:(c.look.step l σ).done=true:=by simpa using q2
 rw [ClimbS.stp_b d1 d2 q3,ClimbS.cnt_n d1]
 exact ⟨rfl,rfl⟩
 refine sA (xmi rfl (TL.gtr rfl rfl rfl rfl (fun q4=>?_) (fun q4=>?_)))
 refine xmt rfl (xmi rfl (xmp rfl (xN0 rfl (xf 0 zbM rfl (xL3 0 zaa rfl rfl (TL.callD [] [] (zch hl) ⟨rfl,trivial⟩ trivial zea rfl rfl rfl rfl rfl trivial (TL.leq rfl rfl rfl rfl (fun q5=>?_) (fun q5=>?_))))))))
 refine xpT rfl (xat rfl (dT rfl (xmp rfl (xmi rfl (xN0 rfl (xf 3 zdp rfl (TL.st 0 #[_,_,_,_,_,_,_,_,_] (.int _ _) rfl rfl rfl rfl rfl rfl zaf rfl rfl trivial (TL.done ?_))))))))
 refine TQ.then (TC.draw2 [(0,true),(1,true),(2,true),(3,true),(4,true),(5,true),(6,true),(7,true),(8,true),(9,true),(10,false),(11,false),(12,true),(13,true)] 14 [] [0] fc_m (by kernel_rfl) (xmp rfl (xmp rfl (xN0 rfl (xf 0 zbM rfl (xL3 0 zaa rfl rfl (xmp rfl (xN0 rfl ?_))))))))
 refine xf 0 zbM rfl (xL3 0 zaa rfl rfl (xmi rfl (TL.callD [] [] (zaP hl) ⟨rfl,rfl,rfl,trivial⟩ trivial zbH rfl rfl rfl rfl rfl (kL1 rfl trivial) (TL.call [] [3] zdS ⟨rfl,rfl,trivial⟩ trivial zkc rfl rfl rfl rfl ?_))))
 rintro v Bs ⟨lb,rfl,rfl⟩
 refine ⟨rfl,(kL1 rfl trivial),?_⟩
 refine xN0 rfl (xf 4 zcO rfl (TL.late (TL.st 0 #[_,_,_,_,_,_,_,_,_] (.pointer (some ⟨_,_,none⟩)) rfl rfl rfl rfl rfl rfl zgb rfl rfl trivial (TL.done (TQ.inBlock (TQ.then (sA (xmp rfl ?_))))))))
 refine xN0 rfl (xf 6 zbu rfl (xlb 0 zb3 rfl rfl (xab rfl (dR ?_))))
 first | refine TQ.close 0 3 (zaB 157 189 cb l (⟨c.node,c.look.step l σ,c.top,true,(c.look.step l σ).value,IntKind.i64.wrap (c.step+1)⟩)) (by decide) rfl rfl (fun _ _ _ s1 s2 hd h1 h2=>zar s1 s2 hd h1 h2) ?_ | refine TQ.close 0 3 (zaB 157 189 cb l (⟨c.node,zbS (l.field c.node 1),true,c.done,c.version,IntKind.i64.wrap (c.step+1)⟩)) (by decide) rfl rfl (fun _ _ _ s1 s2 hd h1 h2=>zar s1 s2 hd h1 h2) ?_ | refine TQ.close 0 3 (zaB 157 189 cb l (⟨(c.look.step l σ).value,zbS (l.field (c.look.step l σ).value 2),c.top,c.done,c.version,IntKind.i64.wrap (c.step+1)⟩)) (by decide) rfl rfl (fun _ _ _ s1 s2 hd h1 h2=>zar s1 s2 hd h1 h2) ?_ | refine TQ.close 0 3 (zaB 157 189 cb l (⟨c.node,c.look.step l σ,c.top,c.done,c.version,IntKind.i64.wrap (c.step+1)⟩)) (by decide) rfl rfl (fun _ _ _ s1 s2 hd h1 h2=>zar s1 s2 hd h1 h2) ?_ | refine TQ.close 0 3 (zaB 157 189 cb l (c)) (by decide) rfl rfl (fun _ _ _ s1 s2 hd h1 h2=>zar s1 s2 hd h1 h2) ?_
 refine FQ.ret1 (v:=(.bool _)) (Bs:=[_,_]) [0,1] rfl rfl rfl ⟨rfl,rfl,trivial⟩ ?_
 have d1:c.done=false:=q1
 have d2:(c.look.step l σ).done=true:=by simpa using q2
 rw [ClimbS.stp_c d1 d2 q3 q4 q5,ClimbS.cnt_n d1]
 exact ⟨by rw [d1],rfl⟩
 refine xpG rfl (xaf rfl (TL.done (TQ.then (TC.condF rfl (sA (xmp rfl (xN0 rfl (xf 5 zem rfl ?_))))))))
 refine TL.st 0 #[_,_,_,_,_,_,_,_,_] (.bool true) rfl rfl rfl rfl rfl rfl zb3 rfl rfl trivial (TL.done (TQ.then (TC.draw2 [(0,true),(1,true),(2,true),(3,true),(4,true),(5,true),(6,true),(7,true),(8,true),(9,true),(10,true),(11,true),(12,true),(13,false),(14,false),(15,true),(16,true)] 17 [] [0] fc_m (by kernel_rfl) (xmp rfl (xmp rfl (xN0 rfl (xf 0 zbM rfl (xL3 0 zaa rfl rfl ?_))))))))
 refine xmp rfl (xN0 rfl (xf 0 zbM rfl (xL3 0 zaa rfl rfl (xmp rfl (xN0 rfl (xf 3 zdp rfl (xli 0 zaf rfl rfl (TL.callD [] [] (zaP hl) ⟨rfl,rfl,rfl,trivial⟩ trivial zbH rfl rfl rfl rfl rfl (kL1 rfl trivial) ?_))))))))
 refine TL.call [] [4] zdS ⟨rfl,rfl,trivial⟩ trivial zkc rfl rfl rfl rfl ?_
 rintro v Bs ⟨lb,rfl,rfl⟩
 refine ⟨rfl,(kL1 rfl trivial),?_⟩
 refine xN0 rfl (xf 4 zcO rfl (TL.late (TL.st 0 #[_,_,_,_,_,_,_,_,_] (.pointer (some ⟨_,_,none⟩)) rfl rfl rfl rfl rfl rfl zgb rfl rfl trivial (TL.done (TQ.inBlock (TQ.then (sA (xmp rfl ?_))))))))
 refine xN0 rfl (xf 6 zbu rfl (xlb 0 zb3 rfl rfl (xab rfl (dR ?_))))
 first | refine TQ.close 0 4 (zaB 157 189 cb l (⟨c.node,c.look.step l σ,c.top,true,(c.look.step l σ).value,IntKind.i64.wrap (c.step+1)⟩)) (by decide) rfl rfl (fun _ _ _ s1 s2 hd h1 h2=>zar s1 s2 hd h1 h2) ?_ | refine TQ.close 0 4 (zaB 157 189 cb l (⟨c.node,zbS (l.field c.node 1),true,c.done,c.version,IntKind.i64.wrap (c.step+1)⟩)) (by decide) rfl rfl (fun _ _ _ s1 s2 hd h1 h2=>zar s1 s2 hd h1 h2) ?_ | refine TQ.close 0 4 (zaB 157 189 cb l (⟨(c.look.step l σ).value,zbS (l.field (c.look.step l σ).value 2),c.top,c.done,c.version,IntKind.i64.wrap (c.step+1)⟩)) (by decide) rfl rfl (fun _ _ _ s1 s2 hd h1 h2=>zar s1 s2 hd h1 h2) ?_ | refine TQ.close 0 4 (zaB 157 189 cb l (⟨c.node,c.look.step l σ,c.top,c.done,c.version,IntKind.i64.wrap (c.step+1)⟩)) (by decide) rfl rfl (fun _ _ _ s1 s2 hd h1 h2=>zar s1 s2 hd h1 h2) ?_ | refine TQ.close 0 4 (zaB 157 189 cb l (c)) (by decide) rfl rfl (fun _ _ _ s1 s2 hd h1 h2=>zar s1 s2 hd h1 h2) ?_
 refine FQ.ret1 (v:=(.bool _)) (Bs:=[_,_]) [0,1] rfl rfl rfl ⟨rfl,rfl,trivial⟩ ?_
 have d1:c.done=false:=q1
 have d2:(c.look.step l σ).done=true:=by simpa using q2
 rw [ClimbS.stp_e d1 d2 q3 (fun h=>q5 h.2),ClimbS.cnt_n d1]
 exact ⟨by rw [d1],rfl⟩
 refine xmf rfl (xo rfl (xo rfl (xo rfl (xo rfl (xo rfl (xo rfl (xo rfl (xpF rfl ?_))))))))
 refine xaf rfl (TL.done (TQ.then (TC.condF rfl (sA (xmp rfl (xN0 rfl (xf 5 zem rfl (TL.st 0 #[_,_,_,_,_,_,_,_,_] (.bool true) rfl rfl rfl rfl rfl rfl zb3 rfl rfl trivial ?_))))))))
 refine TL.done (TQ.then (TC.draw2 [(0,true),(1,true),(2,true),(3,true),(4,true),(5,true),(6,true),(7,true),(8,true),(9,true),(10,true),(11,true),(12,true),(13,false),(14,false),(15,true),(16,true)] 17 [] [0] fc_m (by kernel_rfl) (xmp rfl (xmp rfl (xN0 rfl (xf 0 zbM rfl (xL3 0 zaa rfl rfl (xmp rfl ?_))))))))
 refine xN0 rfl (xf 0 zbM rfl (xL3 0 zaa rfl rfl (xmp rfl (xN0 rfl (xf 3 zdp rfl (xli 0 zaf rfl rfl (TL.callD [] [] (zaP hl) ⟨rfl,rfl,rfl,trivial⟩ trivial zbH rfl rfl rfl rfl rfl (kL1 rfl trivial) (TL.call [] [5] zdS ⟨rfl,rfl,trivial⟩ trivial zkc rfl rfl rfl rfl ?_))))))))
 rintro v Bs ⟨lb,rfl,rfl⟩
 refine ⟨rfl,(kL1 rfl trivial),?_⟩
 refine xN0 rfl (xf 4 zcO rfl (TL.late (TL.st 0 #[_,_,_,_,_,_,_,_,_] (.pointer (some ⟨_,_,none⟩)) rfl rfl rfl rfl rfl rfl zgb rfl rfl trivial (TL.done (TQ.inBlock (TQ.then (sA (xmp rfl ?_))))))))
 refine xN0 rfl (xf 6 zbu rfl (xlb 0 zb3 rfl rfl (xab rfl (dR ?_))))
 first | refine TQ.close 0 5 (zaB 157 189 cb l (⟨c.node,c.look.step l σ,c.top,true,(c.look.step l σ).value,IntKind.i64.wrap (c.step+1)⟩)) (by decide) rfl rfl (fun _ _ _ s1 s2 hd h1 h2=>zar s1 s2 hd h1 h2) ?_ | refine TQ.close 0 5 (zaB 157 189 cb l (⟨c.node,zbS (l.field c.node 1),true,c.done,c.version,IntKind.i64.wrap (c.step+1)⟩)) (by decide) rfl rfl (fun _ _ _ s1 s2 hd h1 h2=>zar s1 s2 hd h1 h2) ?_ | refine TQ.close 0 5 (zaB 157 189 cb l (⟨(c.look.step l σ).value,zbS (l.field (c.look.step l σ).value 2),c.top,c.done,c.version,IntKind.i64.wrap (c.step+1)⟩)) (by decide) rfl rfl (fun _ _ _ s1 s2 hd h1 h2=>zar s1 s2 hd h1 h2) ?_ | refine TQ.close 0 5 (zaB 157 189 cb l (⟨c.node,c.look.step l σ,c.top,c.done,c.version,IntKind.i64.wrap (c.step+1)⟩)) (by decide) rfl rfl (fun _ _ _ s1 s2 hd h1 h2=>zar s1 s2 hd h1 h2) ?_ | refine TQ.close 0 5 (zaB 157 189 cb l (c)) (by decide) rfl rfl (fun _ _ _ s1 s2 hd h1 h2=>zar s1 s2 hd h1 h2) ?_
 refine FQ.ret1 (v:=(.bool _)) (Bs:=[_,_]) [0,1] rfl rfl rfl ⟨rfl,rfl,trivial⟩ ?_
 have d1:c.done=false:=q1
 have d2:(c.look.step l σ).done=true:=by simpa using q2
 rw [ClimbS.stp_e d1 d2 q3 (fun h=>q4 h.1),ClimbS.cnt_n d1]
 exact ⟨by rw [d1],rfl⟩
 refine xnf rfl (dT rfl (xaf rfl (dRR ?_)))
 first | refine TQ.close 0 2 (zaB 157 189 cb l (⟨c.node,c.look.step l σ,c.top,true,(c.look.step l σ).value,IntKind.i64.wrap (c.step+1)⟩)) (by decide) rfl rfl (fun _ _ _ s1 s2 hd h1 h2=>zar s1 s2 hd h1 h2) ?_ | refine TQ.close 0 2 (zaB 157 189 cb l (⟨c.node,zbS (l.field c.node 1),true,c.done,c.version,IntKind.i64.wrap (c.step+1)⟩)) (by decide) rfl rfl (fun _ _ _ s1 s2 hd h1 h2=>zar s1 s2 hd h1 h2) ?_ | refine TQ.close 0 2 (zaB 157 189 cb l (⟨(c.look.step l σ).value,zbS (l.field (c.look.step l σ).value 2),c.top,c.done,c.version,IntKind.i64.wrap (c.step+1)⟩)) (by decide) rfl rfl (fun _ _ _ s1 s2 hd h1 h2=>zar s1 s2 hd h1 h2) ?_ | refine TQ.close 0 2 (zaB 157 189 cb l (⟨c.node,c.look.step l σ,c.top,c.done,c.version,IntKind.i64.wrap (c.step+1)⟩)) (by decide) rfl rfl (fun _ _ _ s1 s2 hd h1 h2=>zar s1 s2 hd h1 h2) ?_ | refine TQ.close 0 2 (zaB 157 189 cb l (c)) (by decide) rfl rfl (fun _ _ _ s1 s2 hd h1 h2=>zar s1 s2 hd h1 h2) ?_
 refine FQ.ret1 (v:=(.bool false)) (Bs:=[_,_]) [0,1] rfl rfl rfl ⟨rfl,rfl,trivial⟩ ?_
 have d1:c.done=false:=q1
 have d2:(c.look.step l σ).done=false:=by simpa using q2
 rw [ClimbS.stp_a d1 d2,ClimbS.cnt_n d1]
 exact ⟨by rw [d1],rfl⟩
theorem znk {a:Option Addr} {b off n c:Nat} {A:Assn} {f:Nat→Int} (ha:0<n→a=some ⟨b,off,none⟩) (hn:n≤20000) (hA:zbc A encU 1 b off n f):Go.Eng.Fn Tryz.prog 87 [.slice a n c] [A] (fun v Bs=>Bs=[A,ownA encU 1 71 v ((List.range n).map f).toArray]):=by
 refine Fn.enter (Tryz.func87) rfl rfl (fun w0 R=>?_)
 refine sA (TL.asg (.slice none 0 0) rfl rfl rfl (dB (xms rfl (TL.nilS rfl rfl zaG rfl rfl (TL.cases rfl (fun q1=>?_) (fun q1=>?_))))))
 refine TL.done (TQ.then (TC.condT rfl (TC.seq ?_)))
 obtain rfl:n=0:=by
   rcases Nat.eq_zero_or_pos n with h | h
   ·exact h
   ·rw [ha h] at q1; simp at q1
 refine TC.nilA 1 (A:=ownA encU 1 71 (.slice none 0 0) ((List.range 0).map f).toArray) (.inl ⟨rfl,rfl⟩) (TC.region (TL.asg (.slice none 0 0) rfl rfl rfl (dRR ?_)))
 refine FQ.ret1 (v:=(.slice none 0 0)) (Bs:=[A,_]) [0,1] rfl rfl rfl ⟨rfl,rfl,trivial⟩ ?_
 rfl
 refine dF rfl (TL.bs0 2 encU zaG rfl rfl (fun bk2=>⟨trivial,?_⟩))
 refine xms rfl ?_
 obtain ⟨ad,rfl⟩:∃ ad,a=some ad:=Option.ne_none_iff_exists'.1 (by rintro rfl; simp at q1)
 refine TL.appS 2 0 (d2:=((List.range n).map f).toArray) rfl (zfG f n) rfl (ha) rfl rfl (hA.congr fun i hi=>(zlC f hi).symm) zot (by decide) zgc (by rw [zfG]; show 0+n≤100000; omega) rfl rfl (fun v3=>⟨trivial,?_⟩)
 refine TL.conseq 2 (B:=ownA encU 1 71 v3 ((List.range n).map f).toArray) rfl (fun h hh=>by simpa using hh) trivial (xav rfl (dR ?_))
 refine FQ.ret1 (v:=_) (Bs:=[A,_]) [0,2] rfl rfl rfl ⟨rfl,rfl,trivial⟩ ?_
 rfl
theorem zoF {ab mb cap:Nat} {rs:Array Value} {σ:Array UInt64} {c:Cnt} (h0:0<σ.size) (h1:σ.size≤20000):Go.Eng.Fn Tryz.prog 29 [.pointer (some ⟨ab,0,none⟩)] [arO ab mb (σ.size) cap 140 c,pt mb (.cells (encM (σ)++rs) 71)] (fun v Bs=>∃ ab2 mb2,v=.pointer (some ⟨ab2,0,none⟩)∧Bs=[arO ab mb (σ.size) cap 140 c,pt mb (.cells (encM (σ)++rs) 71),arenaC ab2 mb2 140 71 (σ) (c)]):=by
 refine Fn.enter (Tryz.func29) rfl rfl (fun w0 R=>?_)
 refine sA (TL.asg (.pointer none) rfl rfl rfl (dS (TC.draw [(0,true),(1,true),(2,true),(3,true),(5,true),(6,true),(7,true),(8,true),(4,false),(9,true),(10,false),(11,true)] [0] fc_m (by kernel_rfl) (xmp rfl (xN0 rfl (xf 0 zcd rfl (xls 0 zfv rfl rfl (xmp rfl ?_))))))))
 refine xN0 rfl (xf 1 zcP rfl (xL5 0 zoq rfl rfl (TL.call [1] [1,2] (znk (fun _=>rfl) h1 zpP) ⟨rfl,trivial⟩ ⟨rfl,trivial⟩ zrs rfl rfl rfl rfl ?_)))
 rintro v Bs rfl
 refine ⟨rfl,(kL1 rfl trivial),?_⟩
 refine TL.ownM 2 h0 rfl (fun _ _=>(kL1 rfl trivial)) (fun g2 cap2 rs2 hv=>?_)
 subst hv
 refine TL.bld [.slice none 0 0,.int .i64 0,.int .i64 0,.int .i64 0,.int .i64 0,.int .i64 0] [(.slice _ _ _),(.agg _)] [_,_,_,_,_,_] zmq zmu ⟨rfl,rfl,trivial⟩ ⟨rfl,rfl⟩ rfl rfl (TL.boxA 3 rfl rfl rfl (fun _=>(kL1 rfl trivial)) (fun bk3=>(xap rfl (dR (TQ.arenaC 3 2 (N:=σ.size) (c:=c) rfl rfl rfl (by decide) ?_)))))
 refine FQ.ret1 (v:=(.pointer (some ⟨_,_,none⟩))) (Bs:=[_,_,_]) [0,1,3] rfl rfl rfl ⟨rfl,rfl,rfl,trivial⟩ ?_
 exact ⟨_,_,rfl,rfl⟩
theorem znH {ab mb:Nat} {σ:Array UInt64} {c:Cnt} (h0:0<σ.size) (h1:σ.size≤20000):Go.Eng.Fn Tryz.prog 29 [.pointer (some ⟨ab,0,none⟩)] [arenaC ab mb 140 71 (σ) (c)] (fun v Bs=>∃ ab2 mb2,v=.pointer (some ⟨ab2,0,none⟩)∧Bs=[arenaC ab mb 140 71 (σ) (c),arenaC ab2 mb2 140 71 (σ) (c)]) :=
 Fn.arenaX rfl (fun cap rs=>Fn.mono (zoF h0 h1) fun v Bs ⟨ab2,mb2,hv,hB⟩=>⟨_,hB,ab2,mb2,hv,rfl⟩)
theorem zqy {l:Lay} (hl:l.Ok) {ab mb:Nat} {σ:Array UInt64}:Go.Eng.Fn Tryz.prog 124 [zfw l 88 (.agg #[.pointer (some ⟨ab,0,none⟩)])] [zaF ab mb 140 71 (σ)] (fun x Bs=>∃ d:Array Int,Bs=[zaF ab mb 140 71 (σ),ownA encI 1 3 x d]∧d.size≤300∧AllD l σ d l.V (l.V+1)):=by
 have hb:=zej hl
 refine Fn.enter (Tryz.func124) rfl rfl (fun w0 R=>?_)
 refine sA (xB 1 rfl (fun bk1=>(TL.asg (.slice none 0 0) rfl rfl rfl (dA (TL.asg (.slice none 0 0) rfl rfl rfl (dS (TC.seq (TC.nilA 2 (A:=ownA encI 1 3 (.slice none 0 0) #[]) (.inl ⟨rfl,rfl⟩) (TC.region ?_)))))))))
 refine xf 0 zaw rfl (xf 0 zas rfl (xli 1 zaf rfl rfl (xmi rfl (dK (TC.loopK (X:=Nat×Value×Array Int) [1,2,11] [0,1] (fun ⟨u,v,d⟩=>[(12,.int .i64 ((u:Nat):Int)),(3,v)]) (fun ⟨u,v,d⟩=>[(2,ownA encI 1 3 v d)]) (fun ⟨u,v,d⟩=>u≤l.V∧d.size≤u * 17∧AllD l σ d u (u+1)) (fun ⟨u,v,d⟩=>l.V - u) ((0,.slice none 0 0,#[])) ⟨Nat.zero_le _,Nat.zero_le _,AllD.start (by decide)⟩ ⟨rfl,rfl,trivial⟩ ⟨rfl,trivial⟩ (fun y hI=>?_))))))
 obtain ⟨u,v,d⟩:=y
 obtain ⟨hu,hdz,hA⟩:=hI
 replace hu:u≤l.V:=hu
 replace hdz:d.size≤u * 17:=hdz
 replace hA:AllD l σ d u (u+1):=hA
 refine TC.sub (env':=[(12,_),(3,_),(1,_),(2,_),(11,_)]) (L':=[(2,_),(0,_),(1,_)]) ⟨rfl,rfl,rfl,rfl,rfl,trivial⟩ ⟨rfl,rfl,rfl,trivial⟩ (sA (TL.lss rfl rfl rfl rfl (fun q1=>?_) (fun q1=>?_)))
 refine dS (TC.condT rfl (TC.skip (TQ.then (TC.seq (TC.block (sA (xmi rfl (xai rfl ?_))))))))
 refine dA (xmi rfl (TL.add (((u+1:Nat):Int)) rfl rfl (wrN (by omega)) rfl rfl (xai rfl (dK (TC.loopK (X:=Nat×Value×Array Int) [1,2,4,11,12] [0,1] (fun ⟨w,v2,d2⟩=>[(5,.int .i64 ((w:Nat):Int)),(3,v2)]) (fun ⟨w,v2,d2⟩=>[(2,ownA encI 1 3 v2 d2)]) (fun ⟨w,v2,d2⟩=>(u+1≤w∧(w≤l.V∨w=u+1))∧d2.size≤u * 17+w∧AllD l σ d2 u w) (fun ⟨w,v2,d2⟩=>l.V - w) ((u+1,v,d)) ⟨⟨Nat.le_refl _,.inr rfl⟩,(show d.size≤u * 17+(u+1) by omega),hA⟩ ⟨rfl,rfl,trivial⟩ ⟨rfl,trivial⟩ (fun y hI=>?_))))))
 obtain ⟨w,v2,d2⟩:=y
 obtain ⟨⟨hw1,hw2⟩,hdz2,hA2⟩:=hI
 replace hw1:u+1≤w:=hw1
 replace hw2:w≤l.V∨w=u+1:=hw2
 replace hdz2:d2.size≤u * 17+w:=hdz2
 replace hA2:AllD l σ d2 u w:=hA2
 refine TC.sub (env':=[(5,_),(3,_),(1,_),(2,_),(4,_),(11,_),(12,_)]) (L':=[(2,_),(0,_),(1,_)]) ⟨rfl,rfl,rfl,rfl,rfl,rfl,rfl,trivial⟩ ⟨rfl,rfl,rfl,trivial⟩ (sB (xmi rfl (xf 0 zaw rfl (xf 0 zas rfl (xli 1 zaf rfl rfl (TL.lss rfl rfl rfl rfl (fun q2=>?_) (fun q2=>?_)))))))
 refine TL.done (TQ.then (TC.condT rfl (TC.skip (TQ.then (TC.seq (TC.block (sA (xL4 1 zaN rfl rfl ?_))))))))
 refine xmi rfl (xmi rfl (TL.callD [0] [0] (zga zbC hl) ⟨rfl,rfl,rfl,trivial⟩ ⟨rfl,trivial⟩ ziD rfl rfl rfl rfl rfl trivial (xmu rfl (xei rfl rfl (TL.ext (.bool _) rfl rfl rfl rfl (TL.ext (.bool _) rfl rfl rfl rfl (xai rfl (xab rfl ?_))))))))
 refine xab rfl (dA (xmb rfl (TL.cases rfl (fun q3=>?_) (fun q3=>?_))))
 refine TL.done (TQ.then (TC.condT rfl (TC.region (xmv rfl (xmi rfl (TL.bsN 3 [_] (encI (find l σ (u:Int) (w:Int)).slot) zff fc_z3 ⟨rfl,trivial⟩ rfl (lit1 rfl) rfl rfl (fun bk3=>⟨trivial,?_⟩)))))))
 refine TL.appS 2 3 (d2:=#[(find l σ (u:Int) (w:Int)).slot]) rfl (rfl) rfl (fun _=>rfl) rfl rfl (row1 rfl) zow (by decide) zkU (by simp; omega) rfl rfl (fun v4=>⟨trivial,?_⟩)
 refine xav rfl (dI (xmi rfl (TL.add (((w+1:Nat):Int)) rfl rfl (wrN (by omega)) rfl rfl (xai rfl (TL.done (TQ.roundK ((w+1,_,d2++#[(find l σ (u:Int) (w:Int)).slot])) ⟨⟨⟨(show u+1≤w+1 by omega),.inl (show w+1≤l.V by omega)⟩,(show (d2++#[(find l σ (u:Int) (w:Int)).slot]).size≤u * 17+(w+1) by simp; omega),hA2.yes (by omega) (by omega) (by assumption)⟩,(show l.V - (w+1)<l.V - w by omega)⟩ ⟨rfl,rfl,trivial⟩ ⟨rfl,trivial⟩ (kE5 rfl rfl rfl rfl rfl trivial) (kL2 rfl rfl trivial)))))))
 refine TL.done (TQ.then (TC.condF rfl (TC.skip (TQ.inBlock (TQ.then (TC.region (xmi rfl (TL.add (((w+1:Nat):Int)) rfl rfl (wrN (by omega)) rfl rfl ?_))))))))
 refine xai rfl (TL.done (TQ.roundK ((w+1,_,d2)) ⟨⟨⟨(show u+1≤w+1 by omega),.inl (show w+1≤l.V by omega)⟩,(show d2.size≤u * 17+(w+1) by omega),hA2.no (by assumption)⟩,(show l.V - (w+1)<l.V - w by omega)⟩ ⟨rfl,rfl,trivial⟩ ⟨rfl,trivial⟩ (kE5 rfl rfl rfl rfl rfl trivial) (kL2 rfl rfl trivial)))
 refine TL.done (TQ.then (TC.condF rfl (TC.exit (TQ.thenExit (TQ.thenExit (TQ.blockHere (TQ.inBlock (TQ.then ?_))))))))
 refine TC.region (TL.add (((u+1:Nat):Int)) rfl rfl (wrN (by omega)) rfl rfl (xmi rfl (TL.done (TQ.roundK ((u+1,_,d2)) ⟨⟨(show u+1≤l.V by omega),(show d2.size≤(u+1) * 17 by omega),hA2.row (by omega) (by omega)⟩,(show l.V - (u+1)<l.V - u by omega)⟩ ⟨rfl,rfl,trivial⟩ ⟨rfl,trivial⟩ (kE3 rfl rfl rfl trivial) (kL2 rfl rfl trivial)))))
 refine dS (TC.condF rfl (TC.exit (TQ.thenExit (TQ.thenExit (TQ.blockHere (TQ.then (sA (xmv rfl ?_))))))))
 refine xav rfl (dR ?_)
 refine FQ.ret1 (v:=_) (Bs:=[_,_]) [0,2] rfl rfl rfl ⟨rfl,rfl,trivial⟩ ?_
 obtain rfl:u=l.V:=by omega
 exact ⟨d,rfl,by omega,hA⟩
theorem zf9 {l:Lay} (hl:l.Ok) {pb ab mb:Nat} {σ:Array UInt64} {p:Pen} {g:G} (hE:EdgeOk l σ g):FnD Tryz.prog 95 [.pointer (some ⟨pb,0,none⟩),adjV l 88 (.agg #[.pointer (some ⟨ab,0,none⟩)]) p] [pt pb (.cells #[.int .i64 l.V,.int .i64 l.S,.int .i64 l.T,.pointer (some ⟨ab,0,none⟩)] 84),zaF ab mb 140 71 (σ)] (.int .i64 ((GA.of g).free l)) [pt pb (.cells #[.int .i64 l.V,.int .i64 l.S,.int .i64 l.T,.pointer (some ⟨ab,0,none⟩)] 84),zaF ab mb 140 71 (σ)]:=by
 have hb:=zej hl
 refine Fn.enter (Tryz.func95) rfl rfl (fun w0 R=>?_)
 refine sA (xB 2 rfl (fun bk2=>(xai rfl (dA (xmp rfl (xN0 rfl (xf 0 zbP rfl (xf 1 za9 rfl (xli 0 zaf rfl rfl ?_)))))))))
 refine TL.mkO 3 (enc:=encB) (N:=l.S) (false) rfl rfl zkV zrb rfl (by decide) (by omega) rfl rfl (fun bk3=>⟨trivial,?_⟩)
 refine xas rfl (dB (xf 0 zaE rfl (xf 0 zak rfl (xf 6 zap rfl (xL4 2 zaN rfl rfl (TL.call [1] [1,4] (zqy hl) ⟨rfl,trivial⟩ ⟨rfl,trivial⟩ zqp rfl rfl rfl rfl ?_))))))
 rintro x Bs ⟨d,rfl,hdz,hdA⟩
 refine ⟨rfl,trivial,?_⟩
 refine TL.ownW 4 rfl (fun a9 g9 c9 hv9 hc9 ha9=>?_)
 subst hv9
 refine xz zff rfl (xmi rfl (dK (TC.loopK (X:=Nat×Array Bool) [4,5,20,21] [0,1,2,4] (fun ⟨k,D⟩=>[(22,.int .i64 ((k:Nat):Int))]) (fun ⟨k,D⟩=>[(3,ownA encB 1 4 (.slice (some ⟨bk3,0,none⟩) l.S l.S) D)]) (fun ⟨k,D⟩=>(k≤d.size∧D.size=l.S)∧UsB d k D) (fun ⟨k,D⟩=>d.size - k) ((0,Array.replicate l.S false)) ⟨⟨Nat.zero_le _,by simp⟩,UsB.start⟩ ⟨rfl,trivial⟩ ⟨rfl,trivial⟩ (fun y hI=>?_))))
 obtain ⟨k,D⟩:=y
 obtain ⟨⟨hk,hDz⟩,hU⟩:=hI
 replace hk:k≤d.size:=hk
 replace hDz:D.size=l.S:=hDz
 replace hU:UsB d k D:=hU
 refine TC.sub (env':=[(22,_),(4,_),(5,_),(20,_),(21,_)]) (L':=[(3,_),(0,_),(1,_),(2,_),(4,_)]) ⟨rfl,rfl,rfl,rfl,rfl,trivial⟩ ⟨rfl,rfl,rfl,rfl,rfl,trivial⟩ (sA (TL.lss rfl rfl rfl rfl (fun q1=>?_) (fun q1=>?_)))
 refine dS (TC.condT rfl (TC.skip (TQ.then (TC.seq (TC.block (TC.seq ?_))))))
 obtain ⟨s,hs,hsl⟩:=hdA.slot hl hE (k:=k) (by omega)
 refine TC.region (TL.iaO rfl ha9 rfl zff (by omega) rfl rfl (TL.ldRS 4 (.int .i64 (s:Int)) rfl rfl (zil ha9) (by omega) (by rw [←hs]; rfl) zaf rfl rfl (xai rfl (dG (xms rfl (xmi rfl (TL.iaO rfl (fun _=>rfl) rfl zfg (by omega) rfl rfl (TL.stOF 3 (o:=0) (i:=s) (cur:=D[s]!) (u:=true) (by omega) rfl rfl rfl rfl (by omega) (rfl) ⟨rfl,rfl⟩ rfl zb3 rfl rfl trivial ?_))))))))
 refine dI (TL.add (((k+1:Nat):Int)) rfl rfl (wrN (by omega)) rfl rfl (xmi rfl (TL.done (TQ.roundK ((k+1,_)) ⟨⟨⟨(show k+1≤d.size by omega),(show (D.setIfInBounds _ _).size=l.S by simp; omega)⟩,hU.step hs⟩,(show d.size - (k+1)<d.size - k by omega)⟩ ⟨rfl,trivial⟩ ⟨rfl,trivial⟩ (kE4 rfl rfl rfl rfl trivial) (kL4 rfl rfl rfl rfl trivial)))))
 refine dS (TC.condF rfl (TC.exit (TQ.thenExit (TQ.thenExit (TQ.blockHere (TQ.then (TC.seq (TC.seq ?_))))))))
 obtain rfl:k=d.size:=by omega
 refine TC.region (xms rfl (xz zfg rfl (xmi rfl (dK (TC.loopK (X:=Nat) [30,31] [0,1,2,3,4] (fun s=>[(32,.int .i64 ((s:Nat):Int))]) (fun s=>[]) (fun s=>s≤l.S∧∀ j,j<s→D[j]! =true) (fun s=>l.S - s) (0) ⟨Nat.zero_le _,fun j hj=>absurd hj (Nat.not_lt_zero _)⟩ ⟨rfl,trivial⟩ trivial (fun s hI=>?_))))))
 obtain ⟨hs,hj⟩:=hI
 refine TC.sub (env':=[(32,_),(30,_),(31,_)]) (L':=[(0,_),(1,_),(2,_),(3,_),(4,_)]) ⟨rfl,rfl,rfl,trivial⟩ ⟨rfl,rfl,rfl,rfl,rfl,trivial⟩ (sA (TL.lss rfl rfl rfl rfl (fun q2=>?_) (fun q2=>?_)))
 refine dS (TC.condT rfl (TC.skip (TQ.then (TC.seq (TC.block (sA (xmi rfl (TL.iaO rfl (fun _=>rfl) rfl zfg (by omega) rfl rfl ?_))))))))
 refine TL.ldRS 3 (.bool _) rfl rfl (zn8 (by omega)) (by omega) (rfl) zb3 rfl rfl (xai rfl (xab rfl (dA (xmb rfl (TL.cases rfl (fun q3=>?_) (fun q3=>?_))))))
 refine xnt rfl (TL.done (TQ.then (TC.condF rfl (TC.skip (TQ.inBlock (TQ.then (TC.region (TL.add (((s+1:Nat):Int)) rfl rfl (wrN (by omega)) rfl rfl ?_))))))))
 refine xmi rfl (TL.done (TQ.roundK (s+1) ⟨⟨by omega,fun j hjs=>by by_cases he:j=s; subst he; assumption; exact hj j (by omega)⟩,by omega⟩ ⟨rfl,trivial⟩ trivial (kE2 rfl rfl trivial) (kL5 rfl rfl rfl rfl rfl trivial)))
 refine xnf rfl (dT rfl (xmi rfl (xai rfl (dR (TQ.blockRet (TQ.thenRet (TQ.thenRet (TQ.blockRet ?_))))))))
 refine TQ.thenRet ?_
 refine FQ.ret1 (v:=(.int _ _)) (Bs:=[_,_]) [0,1] rfl rfl rfl ⟨rfl,rfl,trivial⟩ ?_
 exact ⟨iE (hU.free_at hl hE hdA hDz (s:=s) (by omega) (by assumption) hj).symm,rfl⟩
 refine dS (TC.condF rfl (TC.exit (TQ.thenExit (TQ.thenExit (TQ.blockHere (TQ.then (sA (xai rfl ?_))))))))
 refine dR ?_
 refine FQ.ret1 (v:=(.int _ _)) (Bs:=[_,_]) [0,1] rfl rfl rfl ⟨rfl,rfl,trivial⟩ ?_
 exact ⟨iE (hU.free_no hl hE hdA hDz (fun j h=>hj j (by omega))).symm,rfl⟩
set_option maxHeartbeats 1000000 in
theorem znf {l:Lay} (hl:l.Ok) {pb ab mb:Nat} {σ:Array UInt64} {p:Pen} {a:Option Addr} {b off n c:Nat} {A:Assn} {f:Nat→Op3} (ha:0<n→a=some ⟨b,off,none⟩) (hA:zbc A znc 3 b off n f) (hn:n≤1000) {pr:Int→Int} {g:G} {par0 ver0:Int→Int} (hp:PenOk p) (ht:p.thread≤l.T) (hW:Writ l pr p par0 ver0 σ g)  : Go.Eng.Fn Tryz.prog 36 [.pointer (some ⟨pb,0,none⟩),.agg #[.int .i64 p.thread,.int .i64 p.tag],.slice a n c] [pt pb (.cells #[.int .i64 l.V,.int .i64 l.S,.int .i64 l.T,.pointer (some ⟨ab,0,none⟩)] 84),zaF ab mb 140 71 (σ),A] (fun x Bs=>x=.tuple #[]∧∃ σ2 g2,Bs=[pt pb (.cells #[.int .i64 l.V,.int .i64 l.S,.int .i64 l.T,.pointer (some ⟨ab,0,none⟩)] 84),zaF ab mb 140 71 (σ2),A]∧Writ l pr p par0 ver0 σ2 g2∧GA.of g2=zcM l (GA.of g) f n∧Rch l p σ σ2):=by
 have hb:=zej hl
 refine Fn.enter (Tryz.func36) rfl rfl (fun w0 R=>?_)
 refine sA (xB 3 rfl (fun bk3=>(dS (TC.drawT (.br [(0,true),(1,true),(2,true),(3,true),(4,true),(5,true),(6,true),(7,true),(10,true)] 8 12 (.br [(9,true)] 11 12 (.fin [(12,false),(13,false)]) (.fin [(11,false),(13,false)])) (.fin [(8,false),(9,true),(11,false),(13,false)])) [0,3] fc_m (by kernel_rfl) (TT.br (xmp rfl (xN0 rfl (xf 0 zbP rfl (xL3 0 zaa rfl rfl (xmp rfl ?_))))))))))
 refine xN0 rfl (xf 3 zdW rfl (xlp 0 zgW rfl rfl (xL2 3 zbB rfl rfl (TL.both ?_ ?_))))
 refine TL.callD [] [] zdT ⟨rfl,trivial⟩ trivial zg5 rfl rfl rfl rfl rfl (kL2 rfl rfl trivial) (TL.tree (TT.br (TL.miN (v:=(.agg _)) rfl zeT rfl rfl (TL.both ?_ ?_))))
 refine TL.callD [] [] (zhD (p:=p)) ⟨rfl,rfl,rfl,trivial⟩ trivial zmF rfl rfl rfl rfl rfl (kL2 rfl rfl trivial) (TL.tree (TT.fin (TL.alloc 4 (cs:=#[.int .i64 0,.int .i64 0,.int .i64 0,.nilIface,.int .i64 0,.int .i64 0,.int .i64 0,.int .i64 0,.int .i64 0,.nilIface]) ziB rfl rfl rfl (fun _=>(kL2 rfl rfl trivial)) (fun bk4=>(TL.stW 4 10 [_,_,_,_,_,_,_,_,_,_] rfl rfl rfl rfl rfl rfl zaL rfl rfl (kL2 rfl rfl trivial) (dA (xms rfl (xz zaZ rfl (xmi rfl (dK ?_))))))))))
 refine TC.loopK (X:=Nat×M×G) [0,6,25,26] [0,2,3,4] (fun ⟨i,σ1,g1⟩=>[(27,.int .i64 ((i:Nat):Int))]) (fun ⟨i,σ1,g1⟩=>[(1,zaF ab mb 140 71 (σ1))]) (fun ⟨i,σ1,g1⟩=>i≤n∧Writ l pr p par0 ver0 σ1 g1∧GA.of g1=zcM l (GA.of g) f i∧Rch l p σ σ1) (fun ⟨i,σ1,g1⟩=>n - i) ((0,σ,g)) ⟨Nat.zero_le _,hW,rfl,.refl⟩ ⟨rfl,trivial⟩ ⟨rfl,trivial⟩ (fun y hI=>?_)
 obtain ⟨i,σ1,g1⟩:=y
 obtain ⟨hi,hW1,hG1,hR1⟩:=hI
 replace hR1:Rch l p σ σ1:=hR1
 replace hi:i≤n:=hi
 replace hW1:Writ l pr p par0 ver0 σ1 g1:=hW1
 replace hG1:GA.of g1=zcM l (GA.of g) f i:=hG1
 refine TC.sub (env':=[(27,_),(0,_),(6,_),(25,_),(26,_)]) (L':=[(1,_),(0,_),(2,_),(3,_),(4,_)]) ⟨rfl,rfl,rfl,rfl,rfl,trivial⟩ ⟨rfl,rfl,rfl,rfl,rfl,trivial⟩ (sA (TL.lss rfl rfl rfl rfl (fun q1=>?_) (fun q1=>?_)))
 refine dS (TC.condT rfl (TC.skip (TQ.then (TC.seq (TC.block (sA (TL.iaO rfl ha rfl zaZ (by omega) rfl rfl (TL.ldRx 2 [_,_,_] rfl rfl hA (by omega) rfl zdf rfl rfl ?_))))))))
 refine TL.alloc 5 (cs:=#[.int .i64 0,.int .i64 0,.int .i64 0]) zjp rfl rfl rfl (fun _=>trivial) (fun bk5=>(TL.stW 5 3 [_,_,_] rfl rfl rfl rfl rfl rfl zdf rfl rfl trivial (dS (TC.seq (TC.draw [(0,true),(1,true),(2,true),(3,true),(4,true),(5,true),(6,true),(7,true),(8,true),(9,true),(10,true),(11,true),(12,true),(13,true),(14,true),(15,true),(16,true),(17,true),(18,true),(19,true),(20,true),(21,true),(22,true),(23,true),(24,true),(25,true),(26,true),(27,true),(28,true),(29,true),(30,true),(31,true),(32,true),(33,true),(34,true)] [0,5] fc_m (by kernel_rfl) (xf 1 zaI rfl (xli 5 zaf rfl rfl ?_)))))))
 refine xf 2 zaH rfl (xli 5 zaf rfl rfl (TL.eql rfl rfl rfl rfl (fun q2=>?_) (fun q2=>?_)))
 refine xmt rfl (xo rfl (xo rfl (xo rfl (xpT rfl (xmt rfl (xo rfl (xo rfl (xo rfl ?_))))))))
 refine xo rfl (xo rfl (xo rfl (xo rfl (xo rfl (xpT rfl (xmt rfl (xo rfl (xo rfl ?_))))))))
 refine xo rfl (xpT rfl (xmt rfl (xo rfl (xo rfl (xo rfl (xo rfl (xo rfl (xo rfl ?_))))))))
 refine xo rfl (xo rfl (xpT rfl (TL.done (TQ.then (TC.condT rfl (TC.exit (TQ.thenExit (TQ.blockHere ?_))))))))
 refine TQ.then (TC.region (TL.add (((i+1:Nat):Int)) rfl rfl (wrN (by omega)) rfl rfl (xmi rfl (TL.done (TQ.roundK ((i+1,σ1,g1)) ⟨⟨(show i+1≤n by omega),hW1,zaA hG1 (hW1.skip hl (fun hv=>by first | (exfalso; obtain ⟨v1,v2,v3,v4,v5⟩:=hv; omega) | exact ⟨fun ⟨h1,h2,h3⟩=>by first | omega | simp_all,fun ⟨h1,h2⟩=>by first | omega | simp_all⟩)).symm,hR1⟩,(show n - (i+1)<n - i by omega)⟩ ⟨rfl,trivial⟩ ⟨rfl,trivial⟩ (kE4 rfl rfl rfl rfl trivial) (kL4 rfl rfl rfl rfl trivial))))))
 refine xmf rfl (xf 1 zaI rfl (xli 5 zaf rfl rfl (TL.lss rfl rfl rfl rfl (fun q3=>?_) (fun q3=>?_))))
 refine xpH rfl (xmt rfl (xo rfl (xo rfl (xo rfl (xo rfl (xo rfl (xo rfl (xo rfl ?_))))))))
 refine xo rfl (xpT rfl (xmt rfl (xo rfl (xo rfl (xo rfl (xpT rfl (xmt rfl (xo rfl ?_))))))))
 refine xo rfl (xo rfl (xo rfl (xo rfl (xo rfl (xo rfl (xo rfl (xpT rfl (TL.done ?_))))))))
 refine TQ.then (TC.condT rfl (TC.exit (TQ.thenExit (TQ.blockHere (TQ.then (TC.region (TL.add (((i+1:Nat):Int)) rfl rfl (wrN (by omega)) rfl rfl (xmi rfl ?_))))))))
 refine TL.done (TQ.roundK ((i+1,σ1,g1)) ⟨⟨(show i+1≤n by omega),hW1,zaA hG1 (hW1.skip hl (fun hv=>by first | (exfalso; obtain ⟨v1,v2,v3,v4,v5⟩:=hv; omega) | exact ⟨fun ⟨h1,h2,h3⟩=>by first | omega | simp_all,fun ⟨h1,h2⟩=>by first | omega | simp_all⟩)).symm,hR1⟩,(show n - (i+1)<n - i by omega)⟩ ⟨rfl,trivial⟩ ⟨rfl,trivial⟩ (kE4 rfl rfl rfl rfl trivial) (kL4 rfl rfl rfl rfl trivial))
 refine xpF rfl (xmf rfl (xf 1 zaI rfl (xli 5 zaf rfl rfl (xmp rfl (xN0 rfl (xf 0 zbP rfl (xf 0 zas rfl (xli 0 zaf rfl rfl ?_))))))))
 refine TL.geq rfl rfl rfl rfl (fun q4=>?_) (fun q4=>?_)
 refine xpH rfl (xmt rfl (xo rfl (xo rfl (xo rfl (xpT rfl (xmt rfl (xo rfl (xo rfl ?_))))))))
 refine xo rfl (xo rfl (xo rfl (xo rfl (xo rfl (xo rfl (xpT rfl (TL.done (TQ.then ?_))))))))
 refine TC.condT rfl (TC.exit (TQ.thenExit (TQ.blockHere (TQ.then (TC.region (TL.add (((i+1:Nat):Int)) rfl rfl (wrN (by omega)) rfl rfl (xmi rfl (TL.done ?_))))))))
 refine TQ.roundK ((i+1,σ1,g1)) ⟨⟨(show i+1≤n by omega),hW1,zaA hG1 (hW1.skip hl (fun hv=>by first | (exfalso; obtain ⟨v1,v2,v3,v4,v5⟩:=hv; omega) | exact ⟨fun ⟨h1,h2,h3⟩=>by first | omega | simp_all,fun ⟨h1,h2⟩=>by first | omega | simp_all⟩)).symm,hR1⟩,(show n - (i+1)<n - i by omega)⟩ ⟨rfl,trivial⟩ ⟨rfl,trivial⟩ (kE4 rfl rfl rfl rfl trivial) (kL4 rfl rfl rfl rfl trivial)
 refine xpF rfl (xmf rfl (xf 2 zaH rfl (xli 5 zaf rfl rfl (TL.lss rfl rfl rfl rfl (fun q5=>?_) (fun q5=>?_)))))
 refine xpH rfl (xmt rfl (xo rfl (xo rfl (xo rfl (xo rfl (xo rfl (xo rfl (xo rfl ?_))))))))
 refine xo rfl (xpT rfl (TL.done (TQ.then (TC.condT rfl (TC.exit (TQ.thenExit (TQ.blockHere (TQ.then ?_))))))))
 refine TC.region (TL.add (((i+1:Nat):Int)) rfl rfl (wrN (by omega)) rfl rfl (xmi rfl (TL.done (TQ.roundK ((i+1,σ1,g1)) ⟨⟨(show i+1≤n by omega),hW1,zaA hG1 (hW1.skip hl (fun hv=>by first | (exfalso; obtain ⟨v1,v2,v3,v4,v5⟩:=hv; omega) | exact ⟨fun ⟨h1,h2,h3⟩=>by first | omega | simp_all,fun ⟨h1,h2⟩=>by first | omega | simp_all⟩)).symm,hR1⟩,(show n - (i+1)<n - i by omega)⟩ ⟨rfl,trivial⟩ ⟨rfl,trivial⟩ (kE4 rfl rfl rfl rfl trivial) (kL4 rfl rfl rfl rfl trivial)))))
 refine xpF rfl (xmf rfl (xf 2 zaH rfl (xli 5 zaf rfl rfl (xmp rfl (xN0 rfl (xf 0 zbP rfl (xf 0 zas rfl (xli 0 zaf rfl rfl ?_))))))))
 refine TL.geq rfl rfl rfl rfl (fun q6=>?_) (fun q6=>?_)
 refine xpH rfl (TL.done (TQ.then (TC.condT rfl (TC.exit (TQ.thenExit (TQ.blockHere (TQ.then (TC.region ?_))))))))
 refine TL.add (((i+1:Nat):Int)) rfl rfl (wrN (by omega)) rfl rfl (xmi rfl (TL.done (TQ.roundK ((i+1,σ1,g1)) ⟨⟨(show i+1≤n by omega),hW1,zaA hG1 (hW1.skip hl (fun hv=>by first | (exfalso; obtain ⟨v1,v2,v3,v4,v5⟩:=hv; omega) | exact ⟨fun ⟨h1,h2,h3⟩=>by first | omega | simp_all,fun ⟨h1,h2⟩=>by first | omega | simp_all⟩)).symm,hR1⟩,(show n - (i+1)<n - i by omega)⟩ ⟨rfl,trivial⟩ ⟨rfl,trivial⟩ (kE4 rfl rfl rfl rfl trivial) (kL4 rfl rfl rfl rfl trivial))))
 refine xpF rfl (dF rfl (xf 0 zaE rfl (xf 0 zak rfl (xf 6 zap rfl (xL4 4 zaN rfl rfl (xf 1 zaI rfl (xli 5 zaf rfl rfl (xf 2 zaH rfl ?_))))))))
 refine xli 5 zaf rfl rfl (TL.callD [1] [1] (zga zbC hl) ⟨rfl,rfl,rfl,trivial⟩ ⟨rfl,trivial⟩ ziD rfl rfl rfl rfl rfl trivial (xmu rfl (xei rfl rfl (TL.ext (.bool _) rfl rfl rfl rfl (TL.ext (.bool _) rfl rfl rfl rfl (xai rfl (xab rfl (xab rfl ?_))))))))
 refine dK (sA (xf 0 zbg rfl (xli 5 zaf rfl rfl (TL.eql rfl rfl rfl rfl (fun q7=>?_) (fun q7=>?_)))))
 refine xmt rfl (xmb rfl (TL.cases rfl (fun q8=>?_) (fun q8=>?_)))
 refine xnt rfl (xpG rfl (xaf rfl (TL.done (TQ.then (TC.condF rfl (sA (xf 0 zbg rfl (xli 5 zaf rfl rfl ?_))))))))
 refine TL.eql rfl rfl rfl rfl (fun q9=>?_) (fun q9=>?_)
 refine xmt rfl (xmb rfl (TL.cases rfl (fun q10=>?_) (fun q10=>?_)))
 refine xpT rfl (xat rfl (TL.done (TQ.then (TC.condT rfl (TC.region (xL10 4 zaL rfl rfl (xmi rfl ?_)))))))
 obtain ⟨t2,b2,o2,σ2,g2,hdel,hW2,hG2,hR2⟩:=hW1.delS hl hp ht ⟨by omega,by omega,by omega,by omega,by omega⟩ (by assumption) (by assumption)
 refine TL.callD [1] [1] (zcB zbC hl hdel) ⟨rfl,rfl,trivial⟩ ⟨rfl,trivial⟩ zg3 rfl rfl rfl rfl rfl trivial (TL.done (TQ.inBlock (TQ.inBlock (TQ.then (TC.region (TL.add (((i+1:Nat):Int)) rfl rfl (wrN (by omega)) rfl rfl (xmi rfl (TL.done ?_))))))))
 refine TQ.roundK ((i+1,σ2,g2)) ⟨⟨(show i+1≤n by omega),hW2,zaA hG1 hG2,hR1.trans hR2⟩,(show n - (i+1)<n - i by omega)⟩ ⟨rfl,trivial⟩ ⟨rfl,trivial⟩ (kE4 rfl rfl rfl rfl trivial) (kL4 rfl rfl rfl rfl trivial)
 refine xpG rfl (xaf rfl (TL.done (TQ.then (TC.condF rfl (TC.skip (TQ.inBlock (TQ.inBlock (TQ.then ?_))))))))
 refine TC.region (TL.add (((i+1:Nat):Int)) rfl rfl (wrN (by omega)) rfl rfl (xmi rfl (TL.done (TQ.roundK ((i+1,σ1,g1)) ⟨⟨(show i+1≤n by omega),hW1,zaA hG1 (hW1.skip hl (fun hv=>by first | (exfalso; obtain ⟨v1,v2,v3,v4,v5⟩:=hv; omega) | exact ⟨fun ⟨h1,h2,h3⟩=>by first | omega | simp_all,fun ⟨h1,h2⟩=>by first | omega | simp_all⟩)).symm,hR1⟩,(show n - (i+1)<n - i by omega)⟩ ⟨rfl,trivial⟩ ⟨rfl,trivial⟩ (kE4 rfl rfl rfl rfl trivial) (kL4 rfl rfl rfl rfl trivial)))))
 refine xmf rfl (xo rfl (xpF rfl (xaf rfl (TL.done (TQ.then (TC.condF rfl (TC.skip (TQ.inBlock ?_))))))))
 refine TQ.inBlock (TQ.then (TC.region (TL.add (((i+1:Nat):Int)) rfl rfl (wrN (by omega)) rfl rfl (xmi rfl (TL.done (TQ.roundK ((i+1,σ1,g1)) ⟨⟨(show i+1≤n by omega),hW1,zaA hG1 (hW1.skip hl (fun hv=>by first | (exfalso; obtain ⟨v1,v2,v3,v4,v5⟩:=hv; omega) | exact ⟨fun ⟨h1,h2,h3⟩=>by first | omega | simp_all,fun ⟨h1,h2⟩=>by first | omega | simp_all⟩)).symm,hR1⟩,(show n - (i+1)<n - i by omega)⟩ ⟨rfl,trivial⟩ ⟨rfl,trivial⟩ (kE4 rfl rfl rfl rfl trivial) (kL4 rfl rfl rfl rfl trivial)))))))
 refine xnf rfl (xpT rfl (xat rfl (dT rfl (xmp rfl (xL10 4 zaL rfl rfl (TL.callD [0,1] [0,1] (zf9 hl (hW1.edges hl)) ⟨rfl,rfl,trivial⟩ ⟨rfl,rfl,trivial⟩ zmx rfl rfl rfl rfl rfl trivial (xai rfl (dA ?_))))))))
 refine xmi rfl (TL.geq rfl rfl rfl rfl (fun q9=>?_) (fun q9=>?_))
 refine TL.done (TQ.then (TC.condT rfl (TC.region (xL10 4 zaL rfl rfl (xmi rfl (xf 1 zaI rfl (xli 5 zaf rfl rfl (xf 2 zaH rfl ?_))))))))
 refine xli 5 zaf rfl rfl ?_
 obtain ⟨t2,σ2,g2,hins,hW2,hG2,hR2⟩:=hW1.insS hl hp ht ⟨by omega,by omega,by omega,by omega,by omega⟩ (by assumption) (by assumption) (by assumption)
 refine TL.callD [1] [1] (zfc zbC hl hins) ⟨rfl,rfl,rfl,rfl,trivial⟩ ⟨rfl,trivial⟩ zmy rfl rfl rfl rfl rfl trivial (TL.done (TQ.inBlock (TQ.inBlock (TQ.then (TC.region (TL.add (((i+1:Nat):Int)) rfl rfl (wrN (by omega)) rfl rfl (xmi rfl (TL.done ?_))))))))
 refine TQ.roundK ((i+1,σ2,g2)) ⟨⟨(show i+1≤n by omega),hW2,zaA hG1 hG2,hR1.trans hR2⟩,(show n - (i+1)<n - i by omega)⟩ ⟨rfl,trivial⟩ ⟨rfl,trivial⟩ (kE4 rfl rfl rfl rfl trivial) (kL4 rfl rfl rfl rfl trivial)
 refine TL.done (TQ.then (TC.condF rfl (TC.skip (TQ.inBlock (TQ.inBlock (TQ.then (TC.region (TL.add (((i+1:Nat):Int)) rfl rfl (wrN (by omega)) rfl rfl ?_))))))))
 refine xmi rfl (TL.done (TQ.roundK ((i+1,σ1,g1)) ⟨⟨(show i+1≤n by omega),hW1,zaA hG1 (hW1.skip hl (fun hv=>by first | (exfalso; obtain ⟨v1,v2,v3,v4,v5⟩:=hv; omega) | exact ⟨fun ⟨h1,h2,h3⟩=>by first | omega | simp_all,fun ⟨h1,h2⟩=>by first | omega | simp_all⟩)).symm,hR1⟩,(show n - (i+1)<n - i by omega)⟩ ⟨rfl,trivial⟩ ⟨rfl,trivial⟩ (kE4 rfl rfl rfl rfl trivial) (kL4 rfl rfl rfl rfl trivial)))
 refine xmf rfl (xo rfl (xo rfl (xpF rfl (xaf rfl (TL.done (TQ.then (TC.condF rfl (sA ?_))))))))
 refine xf 0 zbg rfl (xli 5 zaf rfl rfl (TL.eql rfl rfl rfl rfl (fun q8=>?_) (fun q8=>?_)))
 refine xmt rfl (xmb rfl (TL.cases rfl (fun q9=>?_) (fun q9=>?_)))
 refine xpT rfl (xat rfl (TL.done (TQ.then (TC.condT rfl (TC.region (xL10 4 zaL rfl rfl (xmi rfl ?_)))))))
 obtain ⟨t2,b2,o2,σ2,g2,hdel,hW2,hG2,hR2⟩:=hW1.delS hl hp ht ⟨by omega,by omega,by omega,by omega,by omega⟩ (by assumption) (by assumption)
 refine TL.callD [1] [1] (zcB zbC hl hdel) ⟨rfl,rfl,trivial⟩ ⟨rfl,trivial⟩ zg3 rfl rfl rfl rfl rfl trivial (TL.done (TQ.inBlock (TQ.inBlock (TQ.then (TC.region (TL.add (((i+1:Nat):Int)) rfl rfl (wrN (by omega)) rfl rfl (xmi rfl (TL.done ?_))))))))
 refine TQ.roundK ((i+1,σ2,g2)) ⟨⟨(show i+1≤n by omega),hW2,zaA hG1 hG2,hR1.trans hR2⟩,(show n - (i+1)<n - i by omega)⟩ ⟨rfl,trivial⟩ ⟨rfl,trivial⟩ (kE4 rfl rfl rfl rfl trivial) (kL4 rfl rfl rfl rfl trivial)
 refine xpG rfl (xaf rfl (TL.done (TQ.then (TC.condF rfl (TC.skip (TQ.inBlock (TQ.inBlock (TQ.then ?_))))))))
 refine TC.region (TL.add (((i+1:Nat):Int)) rfl rfl (wrN (by omega)) rfl rfl (xmi rfl (TL.done (TQ.roundK ((i+1,σ1,g1)) ⟨⟨(show i+1≤n by omega),hW1,zaA hG1 (hW1.skip hl (fun hv=>by first | (exfalso; obtain ⟨v1,v2,v3,v4,v5⟩:=hv; omega) | exact ⟨fun ⟨h1,h2,h3⟩=>by first | omega | simp_all,fun ⟨h1,h2⟩=>by first | omega | simp_all⟩)).symm,hR1⟩,(show n - (i+1)<n - i by omega)⟩ ⟨rfl,trivial⟩ ⟨rfl,trivial⟩ (kE4 rfl rfl rfl rfl trivial) (kL4 rfl rfl rfl rfl trivial)))))
 refine xmf rfl (xo rfl (xpF rfl (xaf rfl (TL.done (TQ.then (TC.condF rfl (TC.skip (TQ.inBlock ?_))))))))
 refine TQ.inBlock (TQ.then (TC.region (TL.add (((i+1:Nat):Int)) rfl rfl (wrN (by omega)) rfl rfl (xmi rfl (TL.done (TQ.roundK ((i+1,σ1,g1)) ⟨⟨(show i+1≤n by omega),hW1,zaA hG1 (hW1.skip hl (fun hv=>by first | (exfalso; obtain ⟨v1,v2,v3,v4,v5⟩:=hv; omega) | exact ⟨fun ⟨h1,h2,h3⟩=>by first | omega | simp_all,fun ⟨h1,h2⟩=>by first | omega | simp_all⟩)).symm,hR1⟩,(show n - (i+1)<n - i by omega)⟩ ⟨rfl,trivial⟩ ⟨rfl,trivial⟩ (kE4 rfl rfl rfl rfl trivial) (kL4 rfl rfl rfl rfl trivial)))))))
 refine dS (TC.condF rfl (TC.exit (TQ.thenExit (TQ.thenExit (TQ.blockHere ?_)))))
 refine FQ.end0 (Bs:=[_,_,A]) [0,1,2] rfl rfl ⟨rfl,rfl,rfl,trivial⟩ ?_
 obtain rfl:i=n:=by omega
 exact ⟨rfl,_,_,rfl,hW1,hG1,hR1⟩
 refine TL.alloc 6 (cs:=#[.int .i64 0,.int .i64 0,.int .i64 0,.nilIface,.int .i64 0,.int .i64 0,.int .i64 0,.int .i64 0,.int .i64 0,.nilIface]) ziB rfl rfl rfl (fun _=>(kL2 rfl rfl trivial)) (fun bk6=>(TL.tree (TT.fin (TL.callD [] [] (zhD (p:=p)) ⟨rfl,rfl,rfl,trivial⟩ trivial zmF rfl rfl rfl rfl rfl (kL2 rfl rfl trivial) (TL.stW 6 10 [_,_,_,_,_,_,_,_,_,_] rfl rfl rfl rfl rfl rfl zaL rfl rfl (kL2 rfl rfl trivial) (dA (xms rfl (xz zaZ rfl (xmi rfl (dK ?_))))))))))
 refine TC.loopK (X:=Nat×M×G) [0,6,25,26] [0,2,3,6] (fun ⟨i,σ1,g1⟩=>[(27,.int .i64 ((i:Nat):Int))]) (fun ⟨i,σ1,g1⟩=>[(1,zaF ab mb 140 71 (σ1))]) (fun ⟨i,σ1,g1⟩=>i≤n∧Writ l pr p par0 ver0 σ1 g1∧GA.of g1=zcM l (GA.of g) f i∧Rch l p σ σ1) (fun ⟨i,σ1,g1⟩=>n - i) ((0,σ,g)) ⟨Nat.zero_le _,hW,rfl,.refl⟩ ⟨rfl,trivial⟩ ⟨rfl,trivial⟩ (fun y hI=>?_)
 obtain ⟨i,σ1,g1⟩:=y
 obtain ⟨hi,hW1,hG1,hR1⟩:=hI
 replace hR1:Rch l p σ σ1:=hR1
 replace hi:i≤n:=hi
 replace hW1:Writ l pr p par0 ver0 σ1 g1:=hW1
 replace hG1:GA.of g1=zcM l (GA.of g) f i:=hG1
 refine TC.sub (env':=[(27,_),(0,_),(6,_),(25,_),(26,_)]) (L':=[(1,_),(0,_),(2,_),(3,_),(6,_)]) ⟨rfl,rfl,rfl,rfl,rfl,trivial⟩ ⟨rfl,rfl,rfl,rfl,rfl,trivial⟩ (sA (TL.lss rfl rfl rfl rfl (fun q1=>?_) (fun q1=>?_)))
 refine dS (TC.condT rfl (TC.skip (TQ.then (TC.seq (TC.block (sA (TL.iaO rfl ha rfl zaZ (by omega) rfl rfl (TL.ldRx 2 [_,_,_] rfl rfl hA (by omega) rfl zdf rfl rfl ?_))))))))
 refine TL.alloc 7 (cs:=#[.int .i64 0,.int .i64 0,.int .i64 0]) zjp rfl rfl rfl (fun _=>trivial) (fun bk7=>(TL.stW 7 3 [_,_,_] rfl rfl rfl rfl rfl rfl zdf rfl rfl trivial (dS (TC.seq (TC.draw [(0,true),(1,true),(2,true),(3,true),(4,true),(5,true),(6,true),(7,true),(8,true),(9,true),(10,true),(11,true),(12,true),(13,true),(14,true),(15,true),(16,true),(17,true),(18,true),(19,true),(20,true),(21,true),(22,true),(23,true),(24,true),(25,true),(26,true),(27,true),(28,true),(29,true),(30,true),(31,true),(32,true),(33,true),(34,true)] [0,7] fc_m (by kernel_rfl) (xf 1 zaI rfl (xli 7 zaf rfl rfl ?_)))))))
 refine xf 2 zaH rfl (xli 7 zaf rfl rfl (TL.eql rfl rfl rfl rfl (fun q2=>?_) (fun q2=>?_)))
 refine xmt rfl (xo rfl (xo rfl (xo rfl (xpT rfl (xmt rfl (xo rfl (xo rfl (xo rfl ?_))))))))
 refine xo rfl (xo rfl (xo rfl (xo rfl (xo rfl (xpT rfl (xmt rfl (xo rfl (xo rfl ?_))))))))
 refine xo rfl (xpT rfl (xmt rfl (xo rfl (xo rfl (xo rfl (xo rfl (xo rfl (xo rfl ?_))))))))
 refine xo rfl (xo rfl (xpT rfl (TL.done (TQ.then (TC.condT rfl (TC.exit (TQ.thenExit (TQ.blockHere ?_))))))))
 refine TQ.then (TC.region (TL.add (((i+1:Nat):Int)) rfl rfl (wrN (by omega)) rfl rfl (xmi rfl (TL.done (TQ.roundK ((i+1,σ1,g1)) ⟨⟨(show i+1≤n by omega),hW1,zaA hG1 (hW1.skip hl (fun hv=>by first | (exfalso; obtain ⟨v1,v2,v3,v4,v5⟩:=hv; omega) | exact ⟨fun ⟨h1,h2,h3⟩=>by first | omega | simp_all,fun ⟨h1,h2⟩=>by first | omega | simp_all⟩)).symm,hR1⟩,(show n - (i+1)<n - i by omega)⟩ ⟨rfl,trivial⟩ ⟨rfl,trivial⟩ (kE4 rfl rfl rfl rfl trivial) (kL4 rfl rfl rfl rfl trivial))))))
 refine xmf rfl (xf 1 zaI rfl (xli 7 zaf rfl rfl (TL.lss rfl rfl rfl rfl (fun q3=>?_) (fun q3=>?_))))
 refine xpH rfl (xmt rfl (xo rfl (xo rfl (xo rfl (xo rfl (xo rfl (xo rfl (xo rfl ?_))))))))
 refine xo rfl (xpT rfl (xmt rfl (xo rfl (xo rfl (xo rfl (xpT rfl (xmt rfl (xo rfl ?_))))))))
 refine xo rfl (xo rfl (xo rfl (xo rfl (xo rfl (xo rfl (xo rfl (xpT rfl (TL.done ?_))))))))
 refine TQ.then (TC.condT rfl (TC.exit (TQ.thenExit (TQ.blockHere (TQ.then (TC.region (TL.add (((i+1:Nat):Int)) rfl rfl (wrN (by omega)) rfl rfl (xmi rfl ?_))))))))
 refine TL.done (TQ.roundK ((i+1,σ1,g1)) ⟨⟨(show i+1≤n by omega),hW1,zaA hG1 (hW1.skip hl (fun hv=>by first | (exfalso; obtain ⟨v1,v2,v3,v4,v5⟩:=hv; omega) | exact ⟨fun ⟨h1,h2,h3⟩=>by first | omega | simp_all,fun ⟨h1,h2⟩=>by first | omega | simp_all⟩)).symm,hR1⟩,(show n - (i+1)<n - i by omega)⟩ ⟨rfl,trivial⟩ ⟨rfl,trivial⟩ (kE4 rfl rfl rfl rfl trivial) (kL4 rfl rfl rfl rfl trivial))
 refine xpF rfl (xmf rfl (xf 1 zaI rfl (xli 7 zaf rfl rfl (xmp rfl (xN0 rfl (xf 0 zbP rfl (xf 0 zas rfl (xli 0 zaf rfl rfl ?_))))))))
 refine TL.geq rfl rfl rfl rfl (fun q4=>?_) (fun q4=>?_)
 refine xpH rfl (xmt rfl (xo rfl (xo rfl (xo rfl (xpT rfl (xmt rfl (xo rfl (xo rfl ?_))))))))
 refine xo rfl (xo rfl (xo rfl (xo rfl (xo rfl (xo rfl (xpT rfl (TL.done (TQ.then ?_))))))))
 refine TC.condT rfl (TC.exit (TQ.thenExit (TQ.blockHere (TQ.then (TC.region (TL.add (((i+1:Nat):Int)) rfl rfl (wrN (by omega)) rfl rfl (xmi rfl (TL.done ?_))))))))
 refine TQ.roundK ((i+1,σ1,g1)) ⟨⟨(show i+1≤n by omega),hW1,zaA hG1 (hW1.skip hl (fun hv=>by first | (exfalso; obtain ⟨v1,v2,v3,v4,v5⟩:=hv; omega) | exact ⟨fun ⟨h1,h2,h3⟩=>by first | omega | simp_all,fun ⟨h1,h2⟩=>by first | omega | simp_all⟩)).symm,hR1⟩,(show n - (i+1)<n - i by omega)⟩ ⟨rfl,trivial⟩ ⟨rfl,trivial⟩ (kE4 rfl rfl rfl rfl trivial) (kL4 rfl rfl rfl rfl trivial)
 refine xpF rfl (xmf rfl (xf 2 zaH rfl (xli 7 zaf rfl rfl (TL.lss rfl rfl rfl rfl (fun q5=>?_) (fun q5=>?_)))))
 refine xpH rfl (xmt rfl (xo rfl (xo rfl (xo rfl (xo rfl (xo rfl (xo rfl (xo rfl ?_))))))))
 refine xo rfl (xpT rfl (TL.done (TQ.then (TC.condT rfl (TC.exit (TQ.thenExit (TQ.blockHere (TQ.then ?_))))))))
 refine TC.region (TL.add (((i+1:Nat):Int)) rfl rfl (wrN (by omega)) rfl rfl (xmi rfl (TL.done (TQ.roundK ((i+1,σ1,g1)) ⟨⟨(show i+1≤n by omega),hW1,zaA hG1 (hW1.skip hl (fun hv=>by first | (exfalso; obtain ⟨v1,v2,v3,v4,v5⟩:=hv; omega) | exact ⟨fun ⟨h1,h2,h3⟩=>by first | omega | simp_all,fun ⟨h1,h2⟩=>by first | omega | simp_all⟩)).symm,hR1⟩,(show n - (i+1)<n - i by omega)⟩ ⟨rfl,trivial⟩ ⟨rfl,trivial⟩ (kE4 rfl rfl rfl rfl trivial) (kL4 rfl rfl rfl rfl trivial)))))
 refine xpF rfl (xmf rfl (xf 2 zaH rfl (xli 7 zaf rfl rfl (xmp rfl (xN0 rfl (xf 0 zbP rfl (xf 0 zas rfl (xli 0 zaf rfl rfl ?_))))))))
 refine TL.geq rfl rfl rfl rfl (fun q6=>?_) (fun q6=>?_)
 refine xpH rfl (TL.done (TQ.then (TC.condT rfl (TC.exit (TQ.thenExit (TQ.blockHere (TQ.then (TC.region ?_))))))))
 refine TL.add (((i+1:Nat):Int)) rfl rfl (wrN (by omega)) rfl rfl (xmi rfl (TL.done (TQ.roundK ((i+1,σ1,g1)) ⟨⟨(show i+1≤n by omega),hW1,zaA hG1 (hW1.skip hl (fun hv=>by first | (exfalso; obtain ⟨v1,v2,v3,v4,v5⟩:=hv; omega) | exact ⟨fun ⟨h1,h2,h3⟩=>by first | omega | simp_all,fun ⟨h1,h2⟩=>by first | omega | simp_all⟩)).symm,hR1⟩,(show n - (i+1)<n - i by omega)⟩ ⟨rfl,trivial⟩ ⟨rfl,trivial⟩ (kE4 rfl rfl rfl rfl trivial) (kL4 rfl rfl rfl rfl trivial))))
 refine xpF rfl (dF rfl (xf 0 zaE rfl (xf 0 zak rfl (xf 6 zap rfl (xL4 6 zaN rfl rfl (xf 1 zaI rfl (xli 7 zaf rfl rfl (xf 2 zaH rfl ?_))))))))
 refine xli 7 zaf rfl rfl (TL.callD [1] [1] (zga zbC hl) ⟨rfl,rfl,rfl,trivial⟩ ⟨rfl,trivial⟩ ziD rfl rfl rfl rfl rfl trivial (xmu rfl (xei rfl rfl (TL.ext (.bool _) rfl rfl rfl rfl (TL.ext (.bool _) rfl rfl rfl rfl (xai rfl (xab rfl (xab rfl ?_))))))))
 refine dK (sA (xf 0 zbg rfl (xli 7 zaf rfl rfl (TL.eql rfl rfl rfl rfl (fun q7=>?_) (fun q7=>?_)))))
 refine xmt rfl (xmb rfl (TL.cases rfl (fun q8=>?_) (fun q8=>?_)))
 refine xnt rfl (xpG rfl (xaf rfl (TL.done (TQ.then (TC.condF rfl (sA (xf 0 zbg rfl (xli 7 zaf rfl rfl ?_))))))))
 refine TL.eql rfl rfl rfl rfl (fun q9=>?_) (fun q9=>?_)
 refine xmt rfl (xmb rfl (TL.cases rfl (fun q10=>?_) (fun q10=>?_)))
 refine xpT rfl (xat rfl (TL.done (TQ.then (TC.condT rfl (TC.region (xL10 6 zaL rfl rfl (xmi rfl ?_)))))))
 obtain ⟨t2,b2,o2,σ2,g2,hdel,hW2,hG2,hR2⟩:=hW1.delS hl hp ht ⟨by omega,by omega,by omega,by omega,by omega⟩ (by assumption) (by assumption)
 refine TL.callD [1] [1] (zcB zbC hl hdel) ⟨rfl,rfl,trivial⟩ ⟨rfl,trivial⟩ zg3 rfl rfl rfl rfl rfl trivial (TL.done (TQ.inBlock (TQ.inBlock (TQ.then (TC.region (TL.add (((i+1:Nat):Int)) rfl rfl (wrN (by omega)) rfl rfl (xmi rfl (TL.done ?_))))))))
 refine TQ.roundK ((i+1,σ2,g2)) ⟨⟨(show i+1≤n by omega),hW2,zaA hG1 hG2,hR1.trans hR2⟩,(show n - (i+1)<n - i by omega)⟩ ⟨rfl,trivial⟩ ⟨rfl,trivial⟩ (kE4 rfl rfl rfl rfl trivial) (kL4 rfl rfl rfl rfl trivial)
 refine xpG rfl (xaf rfl (TL.done (TQ.then (TC.condF rfl (TC.skip (TQ.inBlock (TQ.inBlock (TQ.then ?_))))))))
 refine TC.region (TL.add (((i+1:Nat):Int)) rfl rfl (wrN (by omega)) rfl rfl (xmi rfl (TL.done (TQ.roundK ((i+1,σ1,g1)) ⟨⟨(show i+1≤n by omega),hW1,zaA hG1 (hW1.skip hl (fun hv=>by first | (exfalso; obtain ⟨v1,v2,v3,v4,v5⟩:=hv; omega) | exact ⟨fun ⟨h1,h2,h3⟩=>by first | omega | simp_all,fun ⟨h1,h2⟩=>by first | omega | simp_all⟩)).symm,hR1⟩,(show n - (i+1)<n - i by omega)⟩ ⟨rfl,trivial⟩ ⟨rfl,trivial⟩ (kE4 rfl rfl rfl rfl trivial) (kL4 rfl rfl rfl rfl trivial)))))
 refine xmf rfl (xo rfl (xpF rfl (xaf rfl (TL.done (TQ.then (TC.condF rfl (TC.skip (TQ.inBlock ?_))))))))
 refine TQ.inBlock (TQ.then (TC.region (TL.add (((i+1:Nat):Int)) rfl rfl (wrN (by omega)) rfl rfl (xmi rfl (TL.done (TQ.roundK ((i+1,σ1,g1)) ⟨⟨(show i+1≤n by omega),hW1,zaA hG1 (hW1.skip hl (fun hv=>by first | (exfalso; obtain ⟨v1,v2,v3,v4,v5⟩:=hv; omega) | exact ⟨fun ⟨h1,h2,h3⟩=>by first | omega | simp_all,fun ⟨h1,h2⟩=>by first | omega | simp_all⟩)).symm,hR1⟩,(show n - (i+1)<n - i by omega)⟩ ⟨rfl,trivial⟩ ⟨rfl,trivial⟩ (kE4 rfl rfl rfl rfl trivial) (kL4 rfl rfl rfl rfl trivial)))))))
 refine xnf rfl (xpT rfl (xat rfl (dT rfl (xmp rfl (xL10 6 zaL rfl rfl (TL.callD [0,1] [0,1] (zf9 hl (hW1.edges hl)) ⟨rfl,rfl,trivial⟩ ⟨rfl,rfl,trivial⟩ zmx rfl rfl rfl rfl rfl trivial (xai rfl (dA ?_))))))))
 refine xmi rfl (TL.geq rfl rfl rfl rfl (fun q9=>?_) (fun q9=>?_))
 refine TL.done (TQ.then (TC.condT rfl (TC.region (xL10 6 zaL rfl rfl (xmi rfl (xf 1 zaI rfl (xli 7 zaf rfl rfl (xf 2 zaH rfl ?_))))))))
 refine xli 7 zaf rfl rfl ?_
 obtain ⟨t2,σ2,g2,hins,hW2,hG2,hR2⟩:=hW1.insS hl hp ht ⟨by omega,by omega,by omega,by omega,by omega⟩ (by assumption) (by assumption) (by assumption)
 refine TL.callD [1] [1] (zfc zbC hl hins) ⟨rfl,rfl,rfl,rfl,trivial⟩ ⟨rfl,trivial⟩ zmy rfl rfl rfl rfl rfl trivial (TL.done (TQ.inBlock (TQ.inBlock (TQ.then (TC.region (TL.add (((i+1:Nat):Int)) rfl rfl (wrN (by omega)) rfl rfl (xmi rfl (TL.done ?_))))))))
 refine TQ.roundK ((i+1,σ2,g2)) ⟨⟨(show i+1≤n by omega),hW2,zaA hG1 hG2,hR1.trans hR2⟩,(show n - (i+1)<n - i by omega)⟩ ⟨rfl,trivial⟩ ⟨rfl,trivial⟩ (kE4 rfl rfl rfl rfl trivial) (kL4 rfl rfl rfl rfl trivial)
 refine TL.done (TQ.then (TC.condF rfl (TC.skip (TQ.inBlock (TQ.inBlock (TQ.then (TC.region (TL.add (((i+1:Nat):Int)) rfl rfl (wrN (by omega)) rfl rfl ?_))))))))
 refine xmi rfl (TL.done (TQ.roundK ((i+1,σ1,g1)) ⟨⟨(show i+1≤n by omega),hW1,zaA hG1 (hW1.skip hl (fun hv=>by first | (exfalso; obtain ⟨v1,v2,v3,v4,v5⟩:=hv; omega) | exact ⟨fun ⟨h1,h2,h3⟩=>by first | omega | simp_all,fun ⟨h1,h2⟩=>by first | omega | simp_all⟩)).symm,hR1⟩,(show n - (i+1)<n - i by omega)⟩ ⟨rfl,trivial⟩ ⟨rfl,trivial⟩ (kE4 rfl rfl rfl rfl trivial) (kL4 rfl rfl rfl rfl trivial)))
 refine xmf rfl (xo rfl (xo rfl (xpF rfl (xaf rfl (TL.done (TQ.then (TC.condF rfl (sA ?_))))))))
 refine xf 0 zbg rfl (xli 7 zaf rfl rfl (TL.eql rfl rfl rfl rfl (fun q8=>?_) (fun q8=>?_)))
 refine xmt rfl (xmb rfl (TL.cases rfl (fun q9=>?_) (fun q9=>?_)))
 refine xpT rfl (xat rfl (TL.done (TQ.then (TC.condT rfl (TC.region (xL10 6 zaL rfl rfl (xmi rfl ?_)))))))
 obtain ⟨t2,b2,o2,σ2,g2,hdel,hW2,hG2,hR2⟩:=hW1.delS hl hp ht ⟨by omega,by omega,by omega,by omega,by omega⟩ (by assumption) (by assumption)
 refine TL.callD [1] [1] (zcB zbC hl hdel) ⟨rfl,rfl,trivial⟩ ⟨rfl,trivial⟩ zg3 rfl rfl rfl rfl rfl trivial (TL.done (TQ.inBlock (TQ.inBlock (TQ.then (TC.region (TL.add (((i+1:Nat):Int)) rfl rfl (wrN (by omega)) rfl rfl (xmi rfl (TL.done ?_))))))))
 refine TQ.roundK ((i+1,σ2,g2)) ⟨⟨(show i+1≤n by omega),hW2,zaA hG1 hG2,hR1.trans hR2⟩,(show n - (i+1)<n - i by omega)⟩ ⟨rfl,trivial⟩ ⟨rfl,trivial⟩ (kE4 rfl rfl rfl rfl trivial) (kL4 rfl rfl rfl rfl trivial)
 refine xpG rfl (xaf rfl (TL.done (TQ.then (TC.condF rfl (TC.skip (TQ.inBlock (TQ.inBlock (TQ.then ?_))))))))
 refine TC.region (TL.add (((i+1:Nat):Int)) rfl rfl (wrN (by omega)) rfl rfl (xmi rfl (TL.done (TQ.roundK ((i+1,σ1,g1)) ⟨⟨(show i+1≤n by omega),hW1,zaA hG1 (hW1.skip hl (fun hv=>by first | (exfalso; obtain ⟨v1,v2,v3,v4,v5⟩:=hv; omega) | exact ⟨fun ⟨h1,h2,h3⟩=>by first | omega | simp_all,fun ⟨h1,h2⟩=>by first | omega | simp_all⟩)).symm,hR1⟩,(show n - (i+1)<n - i by omega)⟩ ⟨rfl,trivial⟩ ⟨rfl,trivial⟩ (kE4 rfl rfl rfl rfl trivial) (kL4 rfl rfl rfl rfl trivial)))))
 refine xmf rfl (xo rfl (xpF rfl (xaf rfl (TL.done (TQ.then (TC.condF rfl (TC.skip (TQ.inBlock ?_))))))))
 refine TQ.inBlock (TQ.then (TC.region (TL.add (((i+1:Nat):Int)) rfl rfl (wrN (by omega)) rfl rfl (xmi rfl (TL.done (TQ.roundK ((i+1,σ1,g1)) ⟨⟨(show i+1≤n by omega),hW1,zaA hG1 (hW1.skip hl (fun hv=>by first | (exfalso; obtain ⟨v1,v2,v3,v4,v5⟩:=hv; omega) | exact ⟨fun ⟨h1,h2,h3⟩=>by first | omega | simp_all,fun ⟨h1,h2⟩=>by first | omega | simp_all⟩)).symm,hR1⟩,(show n - (i+1)<n - i by omega)⟩ ⟨rfl,trivial⟩ ⟨rfl,trivial⟩ (kE4 rfl rfl rfl rfl trivial) (kL4 rfl rfl rfl rfl trivial)))))))
 refine dS (TC.condF rfl (TC.exit (TQ.thenExit (TQ.thenExit (TQ.blockHere ?_)))))
 refine FQ.end0 (Bs:=[_,_,A]) [0,1,2] rfl rfl ⟨rfl,rfl,rfl,trivial⟩ ?_
 obtain rfl:i=n:=by omega
 exact ⟨rfl,_,_,rfl,hW1,hG1,hR1⟩
 refine TL.alloc 8 (cs:=#[.int .i64 0,.int .i64 0,.int .i64 0,.nilIface,.int .i64 0,.int .i64 0,.int .i64 0,.int .i64 0,.int .i64 0,.nilIface]) ziB rfl rfl rfl (fun _=>(kL2 rfl rfl trivial)) (fun bk8=>(TL.tree (TT.fin (TL.callD [] [] zdT ⟨rfl,trivial⟩ trivial zg5 rfl rfl rfl rfl rfl (kL2 rfl rfl trivial) (TL.miN (v:=(.agg _)) rfl zeT rfl rfl (TL.callD [] [] (zhD (p:=p)) ⟨rfl,rfl,rfl,trivial⟩ trivial zmF rfl rfl rfl rfl rfl (kL2 rfl rfl trivial) (TL.stW 8 10 [_,_,_,_,_,_,_,_,_,_] rfl rfl rfl rfl rfl rfl zaL rfl rfl (kL2 rfl rfl trivial) (dA (xms rfl (xz zaZ rfl ?_))))))))))
 refine xmi rfl (dK (TC.loopK (X:=Nat×M×G) [0,6,25,26] [0,2,3,8] (fun ⟨i,σ1,g1⟩=>[(27,.int .i64 ((i:Nat):Int))]) (fun ⟨i,σ1,g1⟩=>[(1,zaF ab mb 140 71 (σ1))]) (fun ⟨i,σ1,g1⟩=>i≤n∧Writ l pr p par0 ver0 σ1 g1∧GA.of g1=zcM l (GA.of g) f i∧Rch l p σ σ1) (fun ⟨i,σ1,g1⟩=>n - i) ((0,σ,g)) ⟨Nat.zero_le _,hW,rfl,.refl⟩ ⟨rfl,trivial⟩ ⟨rfl,trivial⟩ (fun y hI=>?_)))
 obtain ⟨i,σ1,g1⟩:=y
 obtain ⟨hi,hW1,hG1,hR1⟩:=hI
 replace hR1:Rch l p σ σ1:=hR1
 replace hi:i≤n:=hi
 replace hW1:Writ l pr p par0 ver0 σ1 g1:=hW1
 replace hG1:GA.of g1=zcM l (GA.of g) f i:=hG1
 refine TC.sub (env':=[(27,_),(0,_),(6,_),(25,_),(26,_)]) (L':=[(1,_),(0,_),(2,_),(3,_),(8,_)]) ⟨rfl,rfl,rfl,rfl,rfl,trivial⟩ ⟨rfl,rfl,rfl,rfl,rfl,trivial⟩ (sA (TL.lss rfl rfl rfl rfl (fun q1=>?_) (fun q1=>?_)))
 refine dS (TC.condT rfl (TC.skip (TQ.then (TC.seq (TC.block (sA (TL.iaO rfl ha rfl zaZ (by omega) rfl rfl (TL.ldRx 2 [_,_,_] rfl rfl hA (by omega) rfl zdf rfl rfl ?_))))))))
 refine TL.alloc 9 (cs:=#[.int .i64 0,.int .i64 0,.int .i64 0]) zjp rfl rfl rfl (fun _=>trivial) (fun bk9=>(TL.stW 9 3 [_,_,_] rfl rfl rfl rfl rfl rfl zdf rfl rfl trivial (dS (TC.seq (TC.draw [(0,true),(1,true),(2,true),(3,true),(4,true),(5,true),(6,true),(7,true),(8,true),(9,true),(10,true),(11,true),(12,true),(13,true),(14,true),(15,true),(16,true),(17,true),(18,true),(19,true),(20,true),(21,true),(22,true),(23,true),(24,true),(25,true),(26,true),(27,true),(28,true),(29,true),(30,true),(31,true),(32,true),(33,true),(34,true)] [0,9] fc_m (by kernel_rfl) (xf 1 zaI rfl (xli 9 zaf rfl rfl ?_)))))))
 refine xf 2 zaH rfl (xli 9 zaf rfl rfl (TL.eql rfl rfl rfl rfl (fun q2=>?_) (fun q2=>?_)))
 refine xmt rfl (xo rfl (xo rfl (xo rfl (xpT rfl (xmt rfl (xo rfl (xo rfl (xo rfl ?_))))))))
 refine xo rfl (xo rfl (xo rfl (xo rfl (xo rfl (xpT rfl (xmt rfl (xo rfl (xo rfl ?_))))))))
 refine xo rfl (xpT rfl (xmt rfl (xo rfl (xo rfl (xo rfl (xo rfl (xo rfl (xo rfl ?_))))))))
 refine xo rfl (xo rfl (xpT rfl (TL.done (TQ.then (TC.condT rfl (TC.exit (TQ.thenExit (TQ.blockHere ?_))))))))
 refine TQ.then (TC.region (TL.add (((i+1:Nat):Int)) rfl rfl (wrN (by omega)) rfl rfl (xmi rfl (TL.done (TQ.roundK ((i+1,σ1,g1)) ⟨⟨(show i+1≤n by omega),hW1,zaA hG1 (hW1.skip hl (fun hv=>by first | (exfalso; obtain ⟨v1,v2,v3,v4,v5⟩:=hv; omega) | exact ⟨fun ⟨h1,h2,h3⟩=>by first | omega | simp_all,fun ⟨h1,h2⟩=>by first | omega | simp_all⟩)).symm,hR1⟩,(show n - (i+1)<n - i by omega)⟩ ⟨rfl,trivial⟩ ⟨rfl,trivial⟩ (kE4 rfl rfl rfl rfl trivial) (kL4 rfl rfl rfl rfl trivial))))))
 refine xmf rfl (xf 1 zaI rfl (xli 9 zaf rfl rfl (TL.lss rfl rfl rfl rfl (fun q3=>?_) (fun q3=>?_))))
 refine xpH rfl (xmt rfl (xo rfl (xo rfl (xo rfl (xo rfl (xo rfl (xo rfl (xo rfl ?_))))))))
 refine xo rfl (xpT rfl (xmt rfl (xo rfl (xo rfl (xo rfl (xpT rfl (xmt rfl (xo rfl ?_))))))))
 refine xo rfl (xo rfl (xo rfl (xo rfl (xo rfl (xo rfl (xo rfl (xpT rfl (TL.done ?_))))))))
 refine TQ.then (TC.condT rfl (TC.exit (TQ.thenExit (TQ.blockHere (TQ.then (TC.region (TL.add (((i+1:Nat):Int)) rfl rfl (wrN (by omega)) rfl rfl (xmi rfl ?_))))))))
 refine TL.done (TQ.roundK ((i+1,σ1,g1)) ⟨⟨(show i+1≤n by omega),hW1,zaA hG1 (hW1.skip hl (fun hv=>by first | (exfalso; obtain ⟨v1,v2,v3,v4,v5⟩:=hv; omega) | exact ⟨fun ⟨h1,h2,h3⟩=>by first | omega | simp_all,fun ⟨h1,h2⟩=>by first | omega | simp_all⟩)).symm,hR1⟩,(show n - (i+1)<n - i by omega)⟩ ⟨rfl,trivial⟩ ⟨rfl,trivial⟩ (kE4 rfl rfl rfl rfl trivial) (kL4 rfl rfl rfl rfl trivial))
 refine xpF rfl (xmf rfl (xf 1 zaI rfl (xli 9 zaf rfl rfl (xmp rfl (xN0 rfl (xf 0 zbP rfl (xf 0 zas rfl (xli 0 zaf rfl rfl ?_))))))))
 refine TL.geq rfl rfl rfl rfl (fun q4=>?_) (fun q4=>?_)
 refine xpH rfl (xmt rfl (xo rfl (xo rfl (xo rfl (xpT rfl (xmt rfl (xo rfl (xo rfl ?_))))))))
 refine xo rfl (xo rfl (xo rfl (xo rfl (xo rfl (xo rfl (xpT rfl (TL.done (TQ.then ?_))))))))
 refine TC.condT rfl (TC.exit (TQ.thenExit (TQ.blockHere (TQ.then (TC.region (TL.add (((i+1:Nat):Int)) rfl rfl (wrN (by omega)) rfl rfl (xmi rfl (TL.done ?_))))))))
 refine TQ.roundK ((i+1,σ1,g1)) ⟨⟨(show i+1≤n by omega),hW1,zaA hG1 (hW1.skip hl (fun hv=>by first | (exfalso; obtain ⟨v1,v2,v3,v4,v5⟩:=hv; omega) | exact ⟨fun ⟨h1,h2,h3⟩=>by first | omega | simp_all,fun ⟨h1,h2⟩=>by first | omega | simp_all⟩)).symm,hR1⟩,(show n - (i+1)<n - i by omega)⟩ ⟨rfl,trivial⟩ ⟨rfl,trivial⟩ (kE4 rfl rfl rfl rfl trivial) (kL4 rfl rfl rfl rfl trivial)
 refine xpF rfl (xmf rfl (xf 2 zaH rfl (xli 9 zaf rfl rfl (TL.lss rfl rfl rfl rfl (fun q5=>?_) (fun q5=>?_)))))
 refine xpH rfl (xmt rfl (xo rfl (xo rfl (xo rfl (xo rfl (xo rfl (xo rfl (xo rfl ?_))))))))
 refine xo rfl (xpT rfl (TL.done (TQ.then (TC.condT rfl (TC.exit (TQ.thenExit (TQ.blockHere (TQ.then ?_))))))))
 refine TC.region (TL.add (((i+1:Nat):Int)) rfl rfl (wrN (by omega)) rfl rfl (xmi rfl (TL.done (TQ.roundK ((i+1,σ1,g1)) ⟨⟨(show i+1≤n by omega),hW1,zaA hG1 (hW1.skip hl (fun hv=>by first | (exfalso; obtain ⟨v1,v2,v3,v4,v5⟩:=hv; omega) | exact ⟨fun ⟨h1,h2,h3⟩=>by first | omega | simp_all,fun ⟨h1,h2⟩=>by first | omega | simp_all⟩)).symm,hR1⟩,(show n - (i+1)<n - i by omega)⟩ ⟨rfl,trivial⟩ ⟨rfl,trivial⟩ (kE4 rfl rfl rfl rfl trivial) (kL4 rfl rfl rfl rfl trivial)))))
 refine xpF rfl (xmf rfl (xf 2 zaH rfl (xli 9 zaf rfl rfl (xmp rfl (xN0 rfl (xf 0 zbP rfl (xf 0 zas rfl (xli 0 zaf rfl rfl ?_))))))))
 refine TL.geq rfl rfl rfl rfl (fun q6=>?_) (fun q6=>?_)
 refine xpH rfl (TL.done (TQ.then (TC.condT rfl (TC.exit (TQ.thenExit (TQ.blockHere (TQ.then (TC.region ?_))))))))
 refine TL.add (((i+1:Nat):Int)) rfl rfl (wrN (by omega)) rfl rfl (xmi rfl (TL.done (TQ.roundK ((i+1,σ1,g1)) ⟨⟨(show i+1≤n by omega),hW1,zaA hG1 (hW1.skip hl (fun hv=>by first | (exfalso; obtain ⟨v1,v2,v3,v4,v5⟩:=hv; omega) | exact ⟨fun ⟨h1,h2,h3⟩=>by first | omega | simp_all,fun ⟨h1,h2⟩=>by first | omega | simp_all⟩)).symm,hR1⟩,(show n - (i+1)<n - i by omega)⟩ ⟨rfl,trivial⟩ ⟨rfl,trivial⟩ (kE4 rfl rfl rfl rfl trivial) (kL4 rfl rfl rfl rfl trivial))))
 refine xpF rfl (dF rfl (xf 0 zaE rfl (xf 0 zak rfl (xf 6 zap rfl (xL4 8 zaN rfl rfl (xf 1 zaI rfl (xli 9 zaf rfl rfl (xf 2 zaH rfl ?_))))))))
 refine xli 9 zaf rfl rfl (TL.callD [1] [1] (zga zbC hl) ⟨rfl,rfl,rfl,trivial⟩ ⟨rfl,trivial⟩ ziD rfl rfl rfl rfl rfl trivial (xmu rfl (xei rfl rfl (TL.ext (.bool _) rfl rfl rfl rfl (TL.ext (.bool _) rfl rfl rfl rfl (xai rfl (xab rfl (xab rfl ?_))))))))
 refine dK (sA (xf 0 zbg rfl (xli 9 zaf rfl rfl (TL.eql rfl rfl rfl rfl (fun q7=>?_) (fun q7=>?_)))))
 refine xmt rfl (xmb rfl (TL.cases rfl (fun q8=>?_) (fun q8=>?_)))
 refine xnt rfl (xpG rfl (xaf rfl (TL.done (TQ.then (TC.condF rfl (sA (xf 0 zbg rfl (xli 9 zaf rfl rfl ?_))))))))
 refine TL.eql rfl rfl rfl rfl (fun q9=>?_) (fun q9=>?_)
 refine xmt rfl (xmb rfl (TL.cases rfl (fun q10=>?_) (fun q10=>?_)))
 refine xpT rfl (xat rfl (TL.done (TQ.then (TC.condT rfl (TC.region (xL10 8 zaL rfl rfl (xmi rfl ?_)))))))
 obtain ⟨t2,b2,o2,σ2,g2,hdel,hW2,hG2,hR2⟩:=hW1.delS hl hp ht ⟨by omega,by omega,by omega,by omega,by omega⟩ (by assumption) (by assumption)
 refine TL.callD [1] [1] (zcB zbC hl hdel) ⟨rfl,rfl,trivial⟩ ⟨rfl,trivial⟩ zg3 rfl rfl rfl rfl rfl trivial (TL.done (TQ.inBlock (TQ.inBlock (TQ.then (TC.region (TL.add (((i+1:Nat):Int)) rfl rfl (wrN (by omega)) rfl rfl (xmi rfl (TL.done ?_))))))))
 refine TQ.roundK ((i+1,σ2,g2)) ⟨⟨(show i+1≤n by omega),hW2,zaA hG1 hG2,hR1.trans hR2⟩,(show n - (i+1)<n - i by omega)⟩ ⟨rfl,trivial⟩ ⟨rfl,trivial⟩ (kE4 rfl rfl rfl rfl trivial) (kL4 rfl rfl rfl rfl trivial)
 refine xpG rfl (xaf rfl (TL.done (TQ.then (TC.condF rfl (TC.skip (TQ.inBlock (TQ.inBlock (TQ.then ?_))))))))
 refine TC.region (TL.add (((i+1:Nat):Int)) rfl rfl (wrN (by omega)) rfl rfl (xmi rfl (TL.done (TQ.roundK ((i+1,σ1,g1)) ⟨⟨(show i+1≤n by omega),hW1,zaA hG1 (hW1.skip hl (fun hv=>by first | (exfalso; obtain ⟨v1,v2,v3,v4,v5⟩:=hv; omega) | exact ⟨fun ⟨h1,h2,h3⟩=>by first | omega | simp_all,fun ⟨h1,h2⟩=>by first | omega | simp_all⟩)).symm,hR1⟩,(show n - (i+1)<n - i by omega)⟩ ⟨rfl,trivial⟩ ⟨rfl,trivial⟩ (kE4 rfl rfl rfl rfl trivial) (kL4 rfl rfl rfl rfl trivial)))))
 refine xmf rfl (xo rfl (xpF rfl (xaf rfl (TL.done (TQ.then (TC.condF rfl (TC.skip (TQ.inBlock ?_))))))))
 refine TQ.inBlock (TQ.then (TC.region (TL.add (((i+1:Nat):Int)) rfl rfl (wrN (by omega)) rfl rfl (xmi rfl (TL.done (TQ.roundK ((i+1,σ1,g1)) ⟨⟨(show i+1≤n by omega),hW1,zaA hG1 (hW1.skip hl (fun hv=>by first | (exfalso; obtain ⟨v1,v2,v3,v4,v5⟩:=hv; omega) | exact ⟨fun ⟨h1,h2,h3⟩=>by first | omega | simp_all,fun ⟨h1,h2⟩=>by first | omega | simp_all⟩)).symm,hR1⟩,(show n - (i+1)<n - i by omega)⟩ ⟨rfl,trivial⟩ ⟨rfl,trivial⟩ (kE4 rfl rfl rfl rfl trivial) (kL4 rfl rfl rfl rfl trivial)))))))
 refine xnf rfl (xpT rfl (xat rfl (dT rfl (xmp rfl (xL10 8 zaL rfl rfl (TL.callD [0,1] [0,1] (zf9 hl (hW1.edges hl)) ⟨rfl,rfl,trivial⟩ ⟨rfl,rfl,trivial⟩ zmx rfl rfl rfl rfl rfl trivial (xai rfl (dA ?_))))))))
 refine xmi rfl (TL.geq rfl rfl rfl rfl (fun q9=>?_) (fun q9=>?_))
 refine TL.done (TQ.then (TC.condT rfl (TC.region (xL10 8 zaL rfl rfl (xmi rfl (xf 1 zaI rfl (xli 9 zaf rfl rfl (xf 2 zaH rfl ?_))))))))
 refine xli 9 zaf rfl rfl ?_
 obtain ⟨t2,σ2,g2,hins,hW2,hG2,hR2⟩:=hW1.insS hl hp ht ⟨by omega,by omega,by omega,by omega,by omega⟩ (by assumption) (by assumption) (by assumption)
 refine TL.callD [1] [1] (zfc zbC hl hins) ⟨rfl,rfl,rfl,rfl,trivial⟩ ⟨rfl,trivial⟩ zmy rfl rfl rfl rfl rfl trivial (TL.done (TQ.inBlock (TQ.inBlock (TQ.then (TC.region (TL.add (((i+1:Nat):Int)) rfl rfl (wrN (by omega)) rfl rfl (xmi rfl (TL.done ?_))))))))
 refine TQ.roundK ((i+1,σ2,g2)) ⟨⟨(show i+1≤n by omega),hW2,zaA hG1 hG2,hR1.trans hR2⟩,(show n - (i+1)<n - i by omega)⟩ ⟨rfl,trivial⟩ ⟨rfl,trivial⟩ (kE4 rfl rfl rfl rfl trivial) (kL4 rfl rfl rfl rfl trivial)
 refine TL.done (TQ.then (TC.condF rfl (TC.skip (TQ.inBlock (TQ.inBlock (TQ.then (TC.region (TL.add (((i+1:Nat):Int)) rfl rfl (wrN (by omega)) rfl rfl ?_))))))))
 refine xmi rfl (TL.done (TQ.roundK ((i+1,σ1,g1)) ⟨⟨(show i+1≤n by omega),hW1,zaA hG1 (hW1.skip hl (fun hv=>by first | (exfalso; obtain ⟨v1,v2,v3,v4,v5⟩:=hv; omega) | exact ⟨fun ⟨h1,h2,h3⟩=>by first | omega | simp_all,fun ⟨h1,h2⟩=>by first | omega | simp_all⟩)).symm,hR1⟩,(show n - (i+1)<n - i by omega)⟩ ⟨rfl,trivial⟩ ⟨rfl,trivial⟩ (kE4 rfl rfl rfl rfl trivial) (kL4 rfl rfl rfl rfl trivial)))
 refine xmf rfl (xo rfl (xo rfl (xpF rfl (xaf rfl (TL.done (TQ.then (TC.condF rfl (sA ?_))))))))
 refine xf 0 zbg rfl (xli 9 zaf rfl rfl (TL.eql rfl rfl rfl rfl (fun q8=>?_) (fun q8=>?_)))
 refine xmt rfl (xmb rfl (TL.cases rfl (fun q9=>?_) (fun q9=>?_)))
 refine xpT rfl (xat rfl (TL.done (TQ.then (TC.condT rfl (TC.region (xL10 8 zaL rfl rfl (xmi rfl ?_)))))))
 obtain ⟨t2,b2,o2,σ2,g2,hdel,hW2,hG2,hR2⟩:=hW1.delS hl hp ht ⟨by omega,by omega,by omega,by omega,by omega⟩ (by assumption) (by assumption)
 refine TL.callD [1] [1] (zcB zbC hl hdel) ⟨rfl,rfl,trivial⟩ ⟨rfl,trivial⟩ zg3 rfl rfl rfl rfl rfl trivial (TL.done (TQ.inBlock (TQ.inBlock (TQ.then (TC.region (TL.add (((i+1:Nat):Int)) rfl rfl (wrN (by omega)) rfl rfl (xmi rfl (TL.done ?_))))))))
 refine TQ.roundK ((i+1,σ2,g2)) ⟨⟨(show i+1≤n by omega),hW2,zaA hG1 hG2,hR1.trans hR2⟩,(show n - (i+1)<n - i by omega)⟩ ⟨rfl,trivial⟩ ⟨rfl,trivial⟩ (kE4 rfl rfl rfl rfl trivial) (kL4 rfl rfl rfl rfl trivial)
 refine xpG rfl (xaf rfl (TL.done (TQ.then (TC.condF rfl (TC.skip (TQ.inBlock (TQ.inBlock (TQ.then ?_))))))))
 refine TC.region (TL.add (((i+1:Nat):Int)) rfl rfl (wrN (by omega)) rfl rfl (xmi rfl (TL.done (TQ.roundK ((i+1,σ1,g1)) ⟨⟨(show i+1≤n by omega),hW1,zaA hG1 (hW1.skip hl (fun hv=>by first | (exfalso; obtain ⟨v1,v2,v3,v4,v5⟩:=hv; omega) | exact ⟨fun ⟨h1,h2,h3⟩=>by first | omega | simp_all,fun ⟨h1,h2⟩=>by first | omega | simp_all⟩)).symm,hR1⟩,(show n - (i+1)<n - i by omega)⟩ ⟨rfl,trivial⟩ ⟨rfl,trivial⟩ (kE4 rfl rfl rfl rfl trivial) (kL4 rfl rfl rfl rfl trivial)))))
 refine xmf rfl (xo rfl (xpF rfl (xaf rfl (TL.done (TQ.then (TC.condF rfl (TC.skip (TQ.inBlock ?_))))))))
 refine TQ.inBlock (TQ.then (TC.region (TL.add (((i+1:Nat):Int)) rfl rfl (wrN (by omega)) rfl rfl (xmi rfl (TL.done (TQ.roundK ((i+1,σ1,g1)) ⟨⟨(show i+1≤n by omega),hW1,zaA hG1 (hW1.skip hl (fun hv=>by first | (exfalso; obtain ⟨v1,v2,v3,v4,v5⟩:=hv; omega) | exact ⟨fun ⟨h1,h2,h3⟩=>by first | omega | simp_all,fun ⟨h1,h2⟩=>by first | omega | simp_all⟩)).symm,hR1⟩,(show n - (i+1)<n - i by omega)⟩ ⟨rfl,trivial⟩ ⟨rfl,trivial⟩ (kE4 rfl rfl rfl rfl trivial) (kL4 rfl rfl rfl rfl trivial)))))))
 refine dS (TC.condF rfl (TC.exit (TQ.thenExit (TQ.thenExit (TQ.blockHere ?_)))))
 refine FQ.end0 (Bs:=[_,_,A]) [0,1,2] rfl rfl ⟨rfl,rfl,rfl,trivial⟩ ?_
 obtain rfl:i=n:=by omega
 exact ⟨rfl,_,_,rfl,hW1,hG1,hR1⟩
theorem zi2 {V S T:Int}  : FnD Tryz.prog 72 [.agg #[.int .i64 V,.int .i64 S,.int .i64 T]] [] (.bool (decide (okL V S T))) []:=by
 refine Fn.enter (Tryz.func72) rfl rfl (fun w0 R=>?_)
 refine sA (xB 0 rfl (fun bk0=>(xaf rfl (dA (xf 0 zgh rfl (xli 0 zaf rfl rfl (TL.geq rfl rfl rfl rfl (fun q1=>?_) (fun q1=>?_))))))))
 refine xmt rfl (xf 0 zgh rfl (xli 0 zaf rfl rfl (TL.leq rfl rfl rfl rfl (fun q2=>?_) (fun q2=>?_))))
 refine xpT rfl (xmt rfl (xf 1 zgg rfl (xli 0 zaf rfl rfl (TL.geq rfl rfl rfl rfl (fun q3=>?_) (fun q3=>?_)))))
 refine xpT rfl (xmt rfl (xf 1 zgg rfl (xli 0 zaf rfl rfl (TL.leq rfl rfl rfl rfl (fun q4=>?_) (fun q4=>?_)))))
 refine xpT rfl (xmt rfl (xf 2 zgf rfl (xli 0 zaf rfl rfl (TL.geq rfl rfl rfl rfl (fun q5=>?_) (fun q5=>?_)))))
 refine xpT rfl (xmt rfl (xf 2 zgf rfl (xli 0 zaf rfl rfl (TL.leqV rfl rfl rfl rfl (TL.pickT (.bool _) rfl rfl rfl rfl (xab rfl (dR ?_)))))))
 refine FQ.ret1 (v:=(.bool _)) (Bs:=[]) [] rfl rfl rfl trivial ?_
 first | exact ⟨congrArg Value.bool (by unfold okL; first | (simp [*]; done) | (simp [*]; omega) | (rw [eq_comm,decide_eq_false_iff_not]; omega) | (rw [eq_comm,decide_eq_true_iff]; omega) | (rw [decide_eq_decide]; omega)),rfl⟩
 refine xpG rfl (xmf rfl (xo rfl (xo rfl (xo rfl (xpF rfl (xaf rfl (dR ?_)))))))
 refine FQ.ret1 (v:=(.bool false)) (Bs:=[]) [] rfl rfl rfl trivial ?_
 first | exact ⟨congrArg Value.bool (by unfold okL; first | (simp [*]; done) | (simp [*]; omega) | (rw [eq_comm,decide_eq_false_iff_not]; omega) | (rw [eq_comm,decide_eq_true_iff]; omega) | (rw [decide_eq_decide]; omega)),rfl⟩
 refine xpG rfl (xmf rfl (xo rfl (xo rfl (xo rfl (xpF rfl (xmf rfl (xo rfl (xo rfl ?_))))))))
 refine xo rfl (xpF rfl (xaf rfl (dR ?_)))
 refine FQ.ret1 (v:=(.bool false)) (Bs:=[]) [] rfl rfl rfl trivial ?_
 first | exact ⟨congrArg Value.bool (by unfold okL; first | (simp [*]; done) | (simp [*]; omega) | (rw [eq_comm,decide_eq_false_iff_not]; omega) | (rw [eq_comm,decide_eq_true_iff]; omega) | (rw [decide_eq_decide]; omega)),rfl⟩
 refine xpG rfl (xmf rfl (xo rfl (xo rfl (xo rfl (xpF rfl (xmf rfl (xo rfl (xo rfl ?_))))))))
 refine xo rfl (xpF rfl (xmf rfl (xo rfl (xo rfl (xo rfl (xpF rfl (xaf rfl (dR ?_))))))))
 refine FQ.ret1 (v:=(.bool false)) (Bs:=[]) [] rfl rfl rfl trivial ?_
 first | exact ⟨congrArg Value.bool (by unfold okL; first | (simp [*]; done) | (simp [*]; omega) | (rw [eq_comm,decide_eq_false_iff_not]; omega) | (rw [eq_comm,decide_eq_true_iff]; omega) | (rw [decide_eq_decide]; omega)),rfl⟩
 refine xpG rfl (xmf rfl (xo rfl (xo rfl (xo rfl (xpF rfl (xmf rfl (xo rfl (xo rfl ?_))))))))
 refine xo rfl (xpF rfl (xmf rfl (xo rfl (xo rfl (xo rfl (xpF rfl (xmf rfl (xo rfl ?_))))))))
 refine xo rfl (xo rfl (xpF rfl (xaf rfl (dR ?_))))
 refine FQ.ret1 (v:=(.bool false)) (Bs:=[]) [] rfl rfl rfl trivial ?_
 first | exact ⟨congrArg Value.bool (by unfold okL; first | (simp [*]; done) | (simp [*]; omega) | (rw [eq_comm,decide_eq_false_iff_not]; omega) | (rw [eq_comm,decide_eq_true_iff]; omega) | (rw [decide_eq_decide]; omega)),rfl⟩
 refine xmf rfl (xo rfl (xo rfl (xo rfl (xpF rfl (xmf rfl (xo rfl (xo rfl (xo rfl ?_))))))))
 refine xpF rfl (xmf rfl (xo rfl (xo rfl (xo rfl (xpF rfl (xmf rfl (xo rfl (xo rfl ?_))))))))
 refine xo rfl (xpF rfl (xmf rfl (xo rfl (xo rfl (xo rfl (xpF rfl (xaf rfl (dR ?_))))))))
 refine FQ.ret1 (v:=(.bool false)) (Bs:=[]) [] rfl rfl rfl trivial ?_
 first | exact ⟨congrArg Value.bool (by unfold okL; first | (simp [*]; done) | (simp [*]; omega) | (rw [eq_comm,decide_eq_false_iff_not]; omega) | (rw [eq_comm,decide_eq_true_iff]; omega) | (rw [decide_eq_decide]; omega)),rfl⟩
theorem znW {V S T:Int}  : FnD Tryz.prog 90 [.agg #[.int .i64 V,.int .i64 S,.int .i64 T]] [] (.agg #[.int .i64 V,.int .i64 S,.int .i64 T]) []:=by
 refine Fn.enter (Tryz.func90) rfl rfl (fun w0 R=>?_)
 refine sA (xB 0 rfl (fun bk0=>(TL.alloc 1 (cs:=#[.int .i64 0,.int .i64 0,.int .i64 0]) zmr rfl rfl rfl (fun _=>trivial) (fun bk1=>(dA (xf 0 zas rfl (xli 0 zaf rfl rfl (xf 1 za9 rfl (xli 0 zaf rfl rfl (xf 2 zde rfl ?_))))))))))
 refine xli 0 zaf rfl rfl (TL.bld [.int .i64 0,.int .i64 0,.int .i64 0] [(.int _ _),(.int _ _),(.int _ _)] [_,_,_] zmr zp4 ⟨rfl,rfl,rfl,trivial⟩ ⟨rfl,rfl⟩ rfl rfl (TL.stW 1 3 [_,_,_] rfl rfl rfl rfl rfl rfl ziE rfl rfl trivial (dR ?_)))
 refine FQ.retG (rs:=[.cell 2 123]) [(.agg _)] (Bs:=[]) [] rfl ⟨⟨_,_,_,_,_,1,rfl,rfl,.inr ⟨3,[_,_,_],ziE,rfl,rfl⟩⟩,trivial⟩ rfl rfl trivial ?_
 exact ⟨rfl,rfl⟩
theorem zgN {V S T:Int}  {da oa:Option Addr} {dn dc on oc:Nat} {cm:Bool}:FnD Tryz.prog 32 [.agg #[.int .i64 V,.int .i64 S,.int .i64 T,.slice da dn dc,.slice oa on oc,.bool cm]] [] (.bool (decide (okL V S T∧V≤8∧S≤12∧dn≤60∧on≤40))) []:=by
 refine Fn.enter (Tryz.func32) rfl rfl (fun w0 R=>?_)
 refine sA (xB 0 rfl (fun bk0=>(xaf rfl (dA (xf 0 zav rfl (xL3 0 zaa rfl rfl (TL.callD [] [] znW ⟨rfl,trivial⟩ trivial zrr rfl rfl rfl rfl rfl trivial (TL.callD [] [] zi2 ⟨rfl,trivial⟩ trivial zru rfl rfl rfl rfl rfl trivial (TL.casesP rfl (fun q1=>?_) (fun q1=>?_))))))))))
 refine xmt rfl (xf 0 zav rfl (xf 0 zas rfl (xli 0 zaf rfl rfl (TL.leq rfl rfl rfl rfl (fun q2=>?_) (fun q2=>?_)))))
 refine xpT rfl (xmt rfl (xf 0 zav rfl (xf 1 za9 rfl (xli 0 zaf rfl rfl (TL.leq rfl rfl rfl rfl (fun q3=>?_) (fun q3=>?_))))))
 refine xpT rfl (xmt rfl (xf 3 zgZ rfl (xls 0 zfv rfl rfl (xz zaG rfl (TL.leq rfl rfl rfl rfl (fun q4=>?_) (fun q4=>?_))))))
 refine xpT rfl (xmt rfl (xf 4 zdX rfl (xls 0 zka rfl rfl (xz zaZ rfl (TL.leqV rfl rfl rfl rfl (TL.pickT (.bool _) rfl rfl rfl rfl (xab rfl (dR ?_))))))))
 refine FQ.ret1 (v:=(.bool _)) (Bs:=[]) [] rfl rfl rfl trivial ?_
 exact ⟨congrArg Value.bool (by first | (simp [*]; done) | (simp [*]; omega) | (rw [eq_comm,decide_eq_false_iff_not]; intro hc; obtain ⟨c1,c2,c3,c4,c5⟩:=hc; first | omega | (simp_all; done)) | (rw [eq_comm,decide_eq_true_iff]; refine ⟨by simp_all,?_⟩; omega) | (rw [decide_eq_decide]; constructor<;>intro hc<;>first | omega | exact ⟨by simp_all,by omega⟩)),rfl⟩
 refine xpG rfl (xmf rfl (xo rfl (xo rfl (xo rfl (xo rfl (xpF rfl (xaf rfl (dR ?_))))))))
 refine FQ.ret1 (v:=(.bool false)) (Bs:=[]) [] rfl rfl rfl trivial ?_
 exact ⟨congrArg Value.bool (by first | (simp [*]; done) | (simp [*]; omega) | (rw [eq_comm,decide_eq_false_iff_not]; intro hc; obtain ⟨c1,c2,c3,c4,c5⟩:=hc; first | omega | (simp_all; done)) | (rw [eq_comm,decide_eq_true_iff]; refine ⟨by simp_all,?_⟩; omega) | (rw [decide_eq_decide]; constructor<;>intro hc<;>first | omega | exact ⟨by simp_all,by omega⟩)),rfl⟩
 refine xpG rfl (xmf rfl (xo rfl (xo rfl (xo rfl (xo rfl (xpF rfl (xmf rfl (xo rfl ?_))))))))
 refine xo rfl (xo rfl (xo rfl (xpF rfl (xaf rfl (dR ?_)))))
 refine FQ.ret1 (v:=(.bool false)) (Bs:=[]) [] rfl rfl rfl trivial ?_
 exact ⟨congrArg Value.bool (by first | (simp [*]; done) | (simp [*]; omega) | (rw [eq_comm,decide_eq_false_iff_not]; intro hc; obtain ⟨c1,c2,c3,c4,c5⟩:=hc; first | omega | (simp_all; done)) | (rw [eq_comm,decide_eq_true_iff]; refine ⟨by simp_all,?_⟩; omega) | (rw [decide_eq_decide]; constructor<;>intro hc<;>first | omega | exact ⟨by simp_all,by omega⟩)),rfl⟩
 refine xpG rfl (xmf rfl (xo rfl (xo rfl (xo rfl (xo rfl (xpF rfl (xmf rfl (xo rfl ?_))))))))
 refine xo rfl (xo rfl (xo rfl (xpF rfl (xmf rfl (xo rfl (xo rfl (xo rfl (xo rfl ?_))))))))
 refine xpF rfl (xaf rfl (dR ?_))
 refine FQ.ret1 (v:=(.bool false)) (Bs:=[]) [] rfl rfl rfl trivial ?_
 exact ⟨congrArg Value.bool (by first | (simp [*]; done) | (simp [*]; omega) | (rw [eq_comm,decide_eq_false_iff_not]; intro hc; obtain ⟨c1,c2,c3,c4,c5⟩:=hc; first | omega | (simp_all; done)) | (rw [eq_comm,decide_eq_true_iff]; refine ⟨by simp_all,?_⟩; omega) | (rw [decide_eq_decide]; constructor<;>intro hc<;>first | omega | exact ⟨by simp_all,by omega⟩)),rfl⟩
 refine xmf rfl (xo rfl (xo rfl (xo rfl (xo rfl (xpF rfl (xmf rfl (xo rfl (xo rfl ?_))))))))
 refine xo rfl (xo rfl (xpF rfl (xmf rfl (xo rfl (xo rfl (xo rfl (xo rfl (xpF rfl ?_))))))))
 refine xmf rfl (xo rfl (xo rfl (xo rfl (xo rfl (xpF rfl (xaf rfl (dR ?_)))))))
 refine FQ.ret1 (v:=(.bool false)) (Bs:=[]) [] rfl rfl rfl trivial ?_
 exact ⟨congrArg Value.bool (by first | (simp [*]; done) | (simp [*]; omega) | (rw [eq_comm,decide_eq_false_iff_not]; intro hc; obtain ⟨c1,c2,c3,c4,c5⟩:=hc; first | omega | (simp_all; done)) | (rw [eq_comm,decide_eq_true_iff]; refine ⟨by simp_all,?_⟩; omega) | (rw [decide_eq_decide]; constructor<;>intro hc<;>first | omega | exact ⟨by simp_all,by omega⟩)),rfl⟩
set_option maxHeartbeats 1000000 in
theorem zla {l:Lay} (hl:l.Ok) {da oa:Option Addr} {dn dc on oc:Nat} {Ad:Assn} {bd offd bo offo:Nat} {fd:Nat→Int} {fo:Nat→Op3} (hda:0<dn→da=some ⟨bd,offd,none⟩) (hAd:zbc Ad encU 1 bd offd dn fd) (hfd:∀ i,i<dn→0≤fd i∧fd i<18446744073709551616) (hdn:dn≤60) (hoa:0<on→oa=some ⟨bo,offo,none⟩) (hAo:zbc Ad znc 3 bo offo on fo) (hoc:on≤oc) (hon:on≤40) {cm:Bool}:Go.Eng.Fn Tryz.prog 34 [.agg #[.int .i64 l.V,.int .i64 l.S,.int .i64 l.T,.slice da dn dc,.slice oa on oc,.bool cm]] [Ad] (fun x Bs=>∃ pb ab mb σ1 σ2 g1 g2 ver,x=.pointer (some ⟨pb,0,none⟩)∧Bs=[Ad,pt pb (.cells #[.int .i64 l.V,.int .i64 l.S,.int .i64 l.T,.pointer (some ⟨ab,0,none⟩)] 84),zaF ab mb 140 71 (bmem l cm σ2)]∧Begun l (fun x=>if dn=0 then 0 else fd (x.toNat % dn)) fo on σ1 σ2 g1 g2 ver):=by
 have hnb:=zaK hl
 have hcb:=zdM hl
 have hlb:=zbT hl
 have hob:=zbE hl
 have hT1:=znP hl
 have hBn:=znx hl hfd (N:=l.cells.toNat) (by omega)
 refine Fn.enter (Tryz.func34) rfl rfl (fun w0 R=>?_)
 refine sA (xB 1 rfl (fun bk1=>(TL.asg (.pointer none) rfl rfl rfl (dA (xf 0 zav rfl (xL3 1 zaa rfl rfl (xf 3 zgZ rfl (xls 1 zfv rfl rfl (TL.call [0] [0,2] (zkq hl hda hAd hfd (by omega)) ⟨rfl,rfl,trivial⟩ ⟨rfl,trivial⟩ zo6 rfl rfl rfl rfl ?_)))))))))
 rintro v Bs ⟨ab,mb,rfl,rfl⟩
 refine ⟨rfl,trivial,?_⟩
 refine xmu rfl (TL.ext (.pointer (some ⟨_,_,none⟩)) rfl rfl rfl rfl (xei rfl rfl (xap rfl (xai rfl (dB (xmi rfl (TL.neqF rfl rfl (by decide) rfl rfl (xmf rfl ?_))))))))
 refine xmp rfl (TL.nilP false rfl rfl zmw rfl rfl rfl (xpF rfl (dF rfl (xf 0 zav rfl (xL3 1 zaa rfl rfl (xmp rfl (TL.bld [.int .i64 0,.int .i64 0,.int .i64 0,.pointer none] [(.agg _),(.pointer (some ⟨_,_,none⟩))] [_,_,_,_] zq6 zre ⟨rfl,rfl,trivial⟩ ⟨rfl,rfl⟩ rfl rfl (xB 3 rfl (fun bk3=>?_)))))))))
 refine xap rfl (dA (TL.bld [.int .i64 0,.int .i64 0] [(.int _ _)] [_,_] zmp zo0 ⟨rfl,trivial⟩ ⟨rfl,rfl⟩ rfl rfl (TL.alloc 4 (cs:=#[.int .i64 0,.int .i64 0]) zmp rfl rfl rfl (fun _=>trivial) (fun bk4=>(TL.stW 4 2 [_,_] rfl rfl rfl rfl rfl rfl zbB rfl rfl trivial (dA (xmp rfl (TL.callD [] [] zdT ⟨rfl,trivial⟩ trivial zg5 rfl rfl rfl rfl rfl trivial (TL.alloc 5 (cs:=#[.pointer none]) zmo rfl rfl rfl (fun _=>trivial) (fun bk5=>?_))))))))))
 refine TL.stW 5 1 [_] rfl rfl rfl rfl rfl rfl zds rfl rfl trivial (dA (xf 4 zdX rfl (xls 1 zka rfl rfl (xz zaZ rfl (TL.quo (((on / 2:Nat):Int)) rfl rfl (by omega) (zq2 (by omega)) rfl rfl (xai rfl (dS (TC.draw [(0,true),(1,true),(2,true),(3,true),(4,true),(5,true),(6,false)] [1,4] fc_m (by kernel_rfl) ?_))))))))
 refine xmp rfl (xL2 4 zbB rfl rfl (xf 4 zdX rfl (xls 1 zka rfl rfl (xmi rfl (TL.slHi rfl rfl zaZ (by omega) rfl rfl (TL.call [3,2,0] [3,2,0] (znf (p:=⟨1,0⟩) hl (fun h=>zoN hoa hoc (by omega)) (hAo.drop 0 (on / 2) (by omega)) (by omega) zpD hT1 (hBn.w0 hl)) ⟨rfl,rfl,rfl,trivial⟩ ⟨rfl,rfl,rfl,trivial⟩ zo5 rfl rfl rfl rfl ?_))))))
 rintro x Bs ⟨rfl,σ2,g2,rfl,hW2,hG2,hR2⟩
 refine ⟨rfl,(kL2 rfl rfl trivial),?_⟩
 refine dA (xL2 4 zbB rfl rfl (TL.ldA 5 1 [_] rfl rfl rfl zds rfl rfl (TL.miN (v:=(.agg _)) rfl zeT rfl rfl (xf 0 zav rfl (xL3 1 zaa rfl rfl (TL.callD [2] [2] (zgQ (p:=⟨1,0⟩) zbC (zbL) hl) ⟨rfl,rfl,rfl,trivial⟩ ⟨rfl,trivial⟩ zo4 rfl rfl rfl rfl rfl trivial (dB (xai rfl ?_))))))))
 refine dK (TC.loopK (X:=Nat) [1,2,5,6,7,8] [0,1,3,4,5] (fun x=>[(9,.int .i64 ((x+1:Nat):Int))]) (fun x=>[(2,zaF ab mb 140 71 (zbR l false x (zbq l ⟨1,0⟩ σ2 0 true)))]) (fun x=>(x:Int)≤l.nodes) (fun x=>l.nodes.toNat - x) (0) (by omega) ⟨rfl,trivial⟩ ⟨rfl,trivial⟩ (fun x hI=>(TC.sub (env':=[(9,_),(1,_),(2,_),(5,_),(6,_),(7,_),(8,_)]) (L':=[(2,_),(0,_),(1,_),(3,_),(4,_),(5,_)]) ⟨rfl,rfl,rfl,rfl,rfl,rfl,rfl,trivial⟩ ⟨rfl,rfl,rfl,rfl,rfl,rfl,trivial⟩ (sB (xmi rfl (xf 0 zav rfl (xL3 1 zaa rfl rfl (TL.callD [] [] (zch hl) ⟨rfl,trivial⟩ trivial zea rfl rfl rfl rfl rfl trivial ?_))))))))
 refine TL.leq rfl rfl rfl rfl (fun q1=>?_) (fun q1=>?_)
 refine TL.done (TQ.then (TC.condT rfl (TC.skip (TQ.then (TC.seq (TC.block (sA (xf 0 zav rfl ?_))))))))
 refine xL3 1 zaa rfl rfl (xmi rfl (TL.callD [] [] (zei hl) ⟨rfl,rfl,trivial⟩ trivial zgk rfl rfl rfl rfl rfl trivial (xmu rfl (TL.ext (.agg _) rfl rfl rfl rfl (TL.ext (.bool _) rfl rfl rfl rfl (TL.alloc 6 (cs:=#[.bool false,.int .i64 0,.int .i64 0,.int .i64 0,.int .i64 0]) zdE rfl rfl rfl (fun _=>trivial) (fun bk6=>(TL.stW 6 5 [_,_,_,_,_] rfl rfl rfl rfl rfl rfl zbz rfl rfl trivial (xab rfl ?_)))))))))
 refine dA (xf 1 zdV rfl (xli 6 zaf rfl rfl (TL.eql rfl rfl rfl rfl (fun q2=>?_) (fun q2=>?_))))
 refine TL.done (TQ.then (TC.condT rfl (TC.draw [(0,true),(1,true),(2,true),(3,true),(4,true),(5,true),(6,false),(7,false)] [1,4,5] fc_m (by kernel_rfl) (xL2 4 zbB rfl rfl (TL.ldA 5 1 [_] rfl rfl rfl zds rfl rfl (TL.miN (v:=(.agg _)) rfl zeT rfl rfl (xf 0 zav rfl (xL3 1 zaa rfl rfl ?_))))))))
 refine xmi rfl (TL.callD [] [] (zaP hl) ⟨rfl,rfl,rfl,trivial⟩ trivial zbH rfl rfl rfl rfl rfl (kL3 rfl rfl rfl trivial) (TL.callD [2] [2] (zko (p:=⟨1,0⟩) zbC) ⟨rfl,rfl,rfl,trivial⟩ ⟨rfl,trivial⟩ zo2 rfl rfl rfl rfl rfl (kL3 rfl rfl rfl trivial) (dI (xmi rfl (TL.add (((x+2:Nat):Int)) rfl rfl (wrN (by omega)) rfl rfl (xai rfl (TL.done (TQ.roundK (x+1) ⟨(by omega),(by omega)⟩ ⟨rfl,trivial⟩ ⟨congrArg (fun z=>some (zaF ab mb 140 71 (z))) (znn (by assumption)),trivial⟩ (kE6 rfl rfl rfl rfl rfl rfl trivial) (kL5 rfl rfl rfl rfl rfl trivial)))))))))
 refine TL.done (TQ.then (TC.condF rfl (TC.skip (TQ.inBlock (TQ.then (TC.region (xmi rfl (TL.add (((x+2:Nat):Int)) rfl rfl (wrN (by omega)) rfl rfl ?_))))))))
 refine xai rfl (TL.done (TQ.roundK (x+1) ⟨(by omega),(by omega)⟩ ⟨rfl,trivial⟩ ⟨congrArg (fun z=>some (zaF ab mb 140 71 (z))) (zox (by assumption)),trivial⟩ (kE6 rfl rfl rfl rfl rfl rfl trivial) (kL5 rfl rfl rfl rfl rfl trivial)))
 refine dE rfl (sA (xL2 4 zbB rfl rfl (TL.ldA 5 1 [_] rfl rfl rfl zds rfl rfl (TL.miN (v:=(.agg _)) rfl zeT rfl rfl (xf 0 zav rfl (xL3 1 zaa rfl rfl ?_))))))
 obtain rfl:x=l.nodes.toNat:=by omega
 obtain ⟨ver,hC⟩:=hBn.half hl hW2 hR2
 refine TL.callD [2] [2] (zpC (p:=⟨1,0⟩) zbC (zbL) hl) ⟨rfl,rfl,rfl,trivial⟩ ⟨rfl,trivial⟩ zrt rfl rfl rfl rfl rfl trivial (dA (xf 1 zcb rfl (TL.st 4 #[_,_] (.int _ _) rfl rfl rfl rfl rfl rfl zaf rfl rfl trivial (dS (TC.draw [(0,true),(1,true),(2,true),(3,true),(4,true),(5,true),(6,false)] [1,4] fc_m (by kernel_rfl) (xmp rfl (xL2 4 zbB rfl rfl (xf 4 zdX rfl ?_))))))))
 refine xls 1 zka rfl rfl (xmi rfl (TL.slLo rfl rfl zaZ (by omega) rfl rfl (TL.call [3,2,0] [3,2,0] (znf (p:=⟨1,1⟩) hl (fun h=>zoN hoa hoc (by omega)) (hAo.drop (on / 2) (on - on / 2) (by omega)) (by omega) zn7 hT1 (hC.writ hl)) ⟨rfl,rfl,rfl,trivial⟩ ⟨rfl,rfl,rfl,trivial⟩ zo5 rfl rfl rfl rfl ?_)))
 rintro x3 Bs ⟨rfl,σ3,g3,rfl,hW3,hG3,hR3⟩
 refine ⟨rfl,(kL2 rfl rfl trivial),?_⟩
 refine dB (xf 5 zkY rfl (xlb 1 zb3 rfl rfl (TL.done (TQ.then (TC.cond rfl (fun q2=>?_) (fun q2=>?_))))))
 refine TC.region (xL2 4 zbB rfl rfl (TL.ldA 5 1 [_] rfl rfl rfl zds rfl rfl (TL.miN (v:=(.agg _)) rfl zeT rfl rfl (xf 0 zav rfl (xL3 1 zaa rfl rfl (TL.callD [2] [2] (zgQ (p:=⟨1,1⟩) zbC (zbL) hl) ⟨rfl,rfl,rfl,trivial⟩ ⟨rfl,trivial⟩ zo4 rfl rfl rfl rfl rfl trivial (dA (xmp rfl ?_))))))))
 refine xap rfl (dR ?_)
 refine FQ.ret1 (v:=(.pointer (some ⟨_,_,none⟩))) (Bs:=[_,_,_]) [0,3,2] rfl rfl rfl ⟨rfl,rfl,rfl,trivial⟩ ?_
 exact ⟨_,_,_,_,_,_,_,ver,rfl,by unfold bmem; rw [if_pos (by assumption)],⟨hC,hG2.trans (zjm (by intro i; rw [Nat.zero_add])),hW3,hG3.trans (zmg hG2)⟩⟩
 refine TC.skip (TQ.then (sA (xmp rfl (xap rfl (dR ?_)))))
 refine FQ.ret1 (v:=(.pointer (some ⟨_,_,none⟩))) (Bs:=[_,_,_]) [0,3,2] rfl rfl rfl ⟨rfl,rfl,rfl,trivial⟩ ?_
 exact ⟨_,_,_,_,_,_,_,ver,rfl,by unfold bmem; rw [if_neg (by simp [*])],⟨hC,hG2.trans (zjm (by intro i; rw [Nat.zero_add])),hW3,hG3.trans (zmg hG2)⟩⟩
theorem FnD.arenaA2 {P:Program} {f:FuncId} {args:List Value} {ab mb:Nat} {T T':TypeId} {σ σ':Array UInt64} {X X':Assn} {r:Value} (h:∀ c,∃ c',FnD P f args [X,arenaC ab mb T T' σ c] r [X',arenaC ab mb T T' σ' c']):FnD P f args [X,zaF ab mb T T' σ] r [X',zaF ab mb T T' σ']:=by
 refine Fn.swapI ?_
 intro w0 R w hs
 obtain ⟨c,hs1⟩:=hs.head_ex
 obtain ⟨c',h1⟩:=h c
 refine (h1 w0 R w hs1.swap2).mono ?_
 rintro e w' ⟨v,Bs,he,⟨rfl,rfl⟩,hs'⟩
 exact ⟨_,_,he,⟨rfl,rfl⟩,(hs'.swap2.head (B:=zaF ab mb T T' σ') fun x hx=>⟨c',hx⟩).swap2⟩
theorem zeV {l:Lay} (hl:l.Ok) {cb ab mb:Nat} {c:ClimbS} {σ:Array UInt64}:FnD Tryz.prog 40 [.pointer (some ⟨cb,0,none⟩),.pointer (some ⟨ab,0,none⟩)] [zaB 157 189 cb l (c),zaF ab mb 140 71 (σ)] (.bool (c.stp l σ).done) [zaB 157 189 cb l (c.stp l σ),zaF ab mb 140 71 (σ)]:=FnD.arenaA2 fun _=>⟨_,zhW hl⟩
theorem zd0  : FnD Tryz.prog 33 [] [] (.bool true) []:=by
 obtain ⟨h1,h2,h3,h4,h5⟩:=zoA
 refine Fn.enter (Tryz.func33) rfl rfl (fun w0 R=>?_)
 refine TC.seq (TC.nilA 0 (A:=fun _=>True) trivial (TC.region (xaf rfl (dA (TL.bld [.int .i64 0,.int .i64 0,.int .i64 0] [(.int _ _),(.int _ _),(.int _ _)] [_,_,_] zoZ zrk ⟨rfl,rfl,rfl,trivial⟩ ⟨rfl,rfl⟩ rfl rfl (TL.alloc 1 (cs:=#[.int .i64 0,.int .i64 0,.int .i64 0]) zoZ rfl rfl rfl (fun _=>trivial) (fun bk1=>(TL.stW 1 3 [_,_,_] rfl rfl rfl rfl rfl rfl zaa rfl rfl trivial (dA ?_)))))))))
 refine xL3 1 zaa rfl rfl (TL.call [0] [0,2] (zkq (l:=l16) (a:=none) (dn:=0) (dc:=0) (Ad:=fun _=>True) (b:=0) (off:=0) (fd:=fun _=>0) zj7 (fun h=>absurd h (Nat.lt_irrefl 0)) (fun _ _ i hi=>absurd hi (Nat.not_lt_zero i)) (fun i hi=>absurd hi (Nat.not_lt_zero i)) (by decide)) ⟨rfl,rfl,trivial⟩ ⟨rfl,trivial⟩ zo6 rfl rfl rfl rfl ?_)
 rintro v Bs ⟨ab,mb,rfl,rfl⟩
 refine ⟨rfl,trivial,?_⟩
 refine xmu rfl (TL.ext (.pointer (some ⟨_,_,none⟩)) rfl rfl rfl rfl (xei rfl rfl (xap rfl (xai rfl (dB (xmi rfl (TL.neqF rfl rfl (by decide) rfl rfl (xmf rfl ?_))))))))
 refine xmp rfl (TL.nilP false rfl rfl zmw rfl rfl rfl (xpF rfl (dF rfl (xL3 1 zaa rfl rfl (TL.call [] [3] (zjF (l:=l16) zj7) ⟨rfl,rfl,trivial⟩ trivial zmE rfl rfl rfl rfl ?_)))))
 rintro x Bs ⟨cb,rfl,rfl⟩
 refine ⟨rfl,trivial,?_⟩
 refine xap rfl (dS (TC.seq (TC.openE 2 rfl (fun n0=>(TC.region (xmp rfl (TL.nilP false rfl rfl zmv rfl rfl rfl (xmf rfl (xmp rfl ?_)))))))))
 refine xmp rfl (TL.callD [3,2] [3,2] (zhW zj7) ⟨rfl,rfl,trivial⟩ ⟨rfl,rfl,trivial⟩ zg4 rfl rfl rfl rfl rfl trivial ?_)
 rw [h1]
 refine xpF rfl (xmf rfl (xmp rfl (xmp rfl (TL.callD [3,2] [3,2] (zhW zj7) ⟨rfl,rfl,trivial⟩ ⟨rfl,rfl,trivial⟩ zg4 rfl rfl rfl rfl rfl trivial ?_))))
 rw [h2]
 refine xnt rfl (xpF rfl (dF rfl (xmp rfl (TL.callD [3] [3] zhX ⟨rfl,trivial⟩ ⟨rfl,trivial⟩ zmD rfl rfl rfl rfl rfl trivial ?_))))
 rw [show ClimbS.root _=2 from by unfold ClimbS.root; rw [if_pos h2]; exact h3]
 refine TL.eqlT rfl rfl rfl rfl rfl (xmt rfl (xmp rfl (TL.callD [3] [3] zeq ⟨rfl,trivial⟩ ⟨rfl,trivial⟩ zmB rfl rfl rfl rfl rfl trivial ?_)))
 rw [show ClimbS.version _=0 from h4]
 refine TL.eqlT rfl rfl rfl rfl rfl (xpT rfl (xmt rfl (xmp rfl (TL.callD [3] [3] zgs ⟨rfl,trivial⟩ ⟨rfl,trivial⟩ zmA rfl rfl rfl rfl rfl trivial ?_))))
 rw [show ClimbS.step _=2 from h5]
 refine TL.eqlT rfl rfl rfl rfl rfl (xpT rfl (xmt rfl (xmp rfl (TL.callD [3] [3] zh1 ⟨rfl,trivial⟩ ⟨rfl,trivial⟩ zmC rfl rfl rfl rfl rfl trivial ?_))))
 rw [show ClimbS.done _=true from h2]
 refine xpT rfl (xat rfl (dR ?_))
 refine FQ.ret1 (v:=(.bool true)) (Bs:=[]) [] rfl rfl rfl trivial ?_
 exact ⟨rfl,rfl⟩
theorem zoc {V S T:Int} {da oa:Option Addr} {dn dc on oc:Nat} {cm:Bool} {v oth:Int} (hot:0≤oth∧oth<18446744073709551616) (hno:¬(okL V S T∧V≤8∧S≤12∧dn≤60∧on≤40)):FnD Tryz.prog 10 [.agg #[.int .i64 V,.int .i64 S,.int .i64 T,.slice da dn dc,.slice oa on oc,.bool cm],.int .i64 v,.int .u64 oth] [] (.bool true) []:=by
 refine Fn.enter (Tryz.func10) rfl rfl (fun w0 R=>?_)
 refine sA (xB 0 rfl (fun bk0=>(xaf rfl (dB (xL6 0 zhR rfl rfl (TL.callD [] [] zgN ⟨rfl,trivial⟩ trivial zo7 rfl rfl rfl rfl rfl trivial ?_))))))
 rw [decide_eq_false hno]
 refine xnf rfl (xmt rfl (xo rfl (xo rfl (xpT rfl (xmt rfl (xo rfl (xo rfl (xo rfl ?_))))))))
 refine xo rfl (xo rfl (xpT rfl (dT rfl (TL.callD [] [] zd0 trivial trivial zkg rfl rfl rfl rfl rfl trivial (xat rfl (dRR ?_))))))
 refine FQ.ret1 (v:=(.bool true)) (Bs:=[]) [] rfl rfl rfl trivial ?_
 exact ⟨rfl,rfl⟩
set_option maxHeartbeats 1000000 in
theorem zod {l:Lay} (hl:l.Ok) {da oa:Option Addr} {dn dc on oc:Nat} {Ad:Assn} {bd offd bo offo:Nat} {fd:Nat→Int} {fo:Nat→Op3} (hda:0<dn→da=some ⟨bd,offd,none⟩) (hAd:zbc Ad encU 1 bd offd dn fd) (hfd:∀ i,i<dn→0≤fd i∧fd i<18446744073709551616) (hoa:0<on→oa=some ⟨bo,offo,none⟩) (hAo:zbc Ad znc 3 bo offo on fo) (hoc:on≤oc) {cm:Bool} {v oth:Int} (hot:0≤oth∧oth<18446744073709551616) (hok:(okL l.V l.S l.T∧(l.V:Int)≤8∧(l.S:Int)≤12∧dn≤60∧on≤40)):FnD Tryz.prog 10 [.agg #[.int .i64 l.V,.int .i64 l.S,.int .i64 l.T,.slice da dn dc,.slice oa on oc,.bool cm],.int .i64 v,.int .u64 oth] [Ad] (.bool true) [Ad]:=by
 obtain ⟨hk1,hk2,hk3,hk4,hk5⟩:=hok
 have hok:(okL l.V l.S l.T∧(l.V:Int)≤8∧(l.S:Int)≤12∧dn≤60∧on≤40):=⟨hk1,hk2,hk3,hk4,hk5⟩
 have hdn:dn≤60:=by omega
 have hon:on≤40:=by omega
 have hnb:=zaK hl
 have hcb:=zdM hl
 have hlb:=zbT hl
 have hob:=zbE hl
 have hlk:=zej hl
 have hhd:l.heads=l.T+1+l.S * 7:=rfl
 refine Fn.enter (Tryz.func10) rfl rfl (fun w0 R=>?_)
 refine sA (xB 1 rfl (fun bk1=>(xaf rfl (dB (xL6 1 zhR rfl rfl (TL.callD [] [] zgN ⟨rfl,trivial⟩ trivial zo7 rfl rfl rfl rfl rfl trivial ?_))))))
 rw [decide_eq_true hok]
 refine xnt rfl (xmf rfl (xmi rfl (TL.lss rfl rfl rfl rfl (fun q1=>?_) (fun q1=>?_))))
 refine xpH rfl (xmt rfl (xo rfl (xo rfl (xo rfl (xo rfl (xo rfl (xpT rfl (dT rfl ?_))))))))
 refine TL.callD [] [] zd0 trivial trivial zkg rfl rfl rfl rfl rfl trivial (xat rfl (dRR ?_))
 refine FQ.ret1 (v:=(.bool true)) (Bs:=[_]) [0] rfl rfl rfl ⟨rfl,trivial⟩ ?_
 exact ⟨rfl,rfl⟩
 refine xpF rfl (xmf rfl (xmi rfl (xf 0 zav rfl (xf 0 zas rfl (xli 1 zaf rfl rfl (TL.geq rfl rfl rfl rfl (fun q2=>?_) (fun q2=>?_)))))))
 refine xpH rfl (dT rfl (TL.callD [] [] zd0 trivial trivial zkg rfl rfl rfl rfl rfl trivial (xat rfl (dRR ?_))))
 refine FQ.ret1 (v:=(.bool true)) (Bs:=[_]) [0] rfl rfl rfl ⟨rfl,trivial⟩ ?_
 exact ⟨rfl,rfl⟩
 refine xpF rfl (dF rfl (xL6 1 zhR rfl rfl (TL.call [0] [0,2,3] (zla hl hda hAd hfd (by omega) hoa hAo hoc (by omega)) ⟨rfl,trivial⟩ ⟨rfl,trivial⟩ zrw rfl rfl rfl rfl ?_)))
 rintro x Bs ⟨pb,ab,mb,σ1,σ2,g1,g2,ver,rfl,rfl,hB⟩
 refine ⟨rfl,trivial,?_⟩
 obtain ⟨hz,par,rt,hS,hJ⟩:=hB.seen hl cm
 obtain ⟨h,N,hh1,hU,hN1,hN2,hE⟩:=zk4 hl hS (v:=v) ⟨by omega,by omega⟩
 refine xap rfl (dB (xmp rfl (TL.nilP false rfl rfl zrl rfl rfl rfl (TL.done (TQ.then (TC.condF rfl (TC.skip (TQ.then ?_))))))))
 refine TC.seq (TC.openE 3 rfl (fun n0=>(TC.region (xmp rfl (xN0 rfl (xf 3 zdW rfl (xlp 2 zgW rfl rfl (TL.call [3] [3,4] (znH (by omega) (by omega)) ⟨rfl,trivial⟩ ⟨rfl,trivial⟩ zrx rfl rfl rfl rfl ?_))))))))
 rintro v Bs ⟨ab2,mb2,rfl,rfl⟩
 refine ⟨rfl,trivial,?_⟩
 refine TL.conseq 3 (B:=zaF ab mb 140 71 (bmem l cm σ2)) rfl (fun h hh=>zh3 hh) trivial (TL.conseq 4 (B:=zaF ab2 mb2 140 71 (bmem l cm σ2)) rfl (fun h hh=>zh3 hh) trivial (xap rfl (dB (xmp rfl (TL.nilP false rfl rfl zmw rfl rfl rfl (dF rfl (TL.mkMA 5 (fun z:Int=>.int .i64 z) (Value.bool) rfl rfl (fun bk5=>⟨trivial,?_⟩))))))))
 refine TL.asg (.map _) rfl rfl rfl (dB (xai rfl (dK (TC.loopK (X:=Nat×List (Int×Bool)) [1,2,3,6,7,8,9] [0,1,2,3,4] (fun ⟨t,qs⟩=>[(10,.int .i64 ((t+1:Nat):Int))]) (fun ⟨t,qs⟩=>[(5,mapA bk5 (fun z:Int=>.int .i64 z) Value.bool qs)]) (fun ⟨t,qs⟩=>t≤l.T∧Kp qs (fun z=>KpT l (t:Int) z)) (fun ⟨t,qs⟩=>l.T - t) ((0,[])) ⟨Nat.zero_le _,KpT.zero⟩ ⟨rfl,trivial⟩ ⟨rfl,trivial⟩ (fun y hI=>?_)))))
 obtain ⟨t,qs⟩:=y
 obtain ⟨ht,hK⟩:=hI
 replace ht:t≤l.T:=ht
 replace hK:Kp qs (fun z=>KpT l (t:Int) z):=hK
 refine TC.sub (env':=[(10,_),(1,_),(2,_),(3,_),(6,_),(7,_),(8,_),(9,_)]) (L':=[(5,_),(0,_),(1,_),(2,_),(3,_),(4,_)]) ⟨rfl,rfl,rfl,rfl,rfl,rfl,rfl,rfl,trivial⟩ ⟨rfl,rfl,rfl,rfl,rfl,rfl,trivial⟩ (sB (xmi rfl (xf 0 zav rfl (xf 2 zde rfl (xli 1 zaf rfl rfl (TL.leq rfl rfl rfl rfl (fun q3=>?_) (fun q3=>?_)))))))
 refine TL.done (TQ.then (TC.condT rfl (TC.skip (TQ.then (TC.seq (TC.block (TC.region (TL.mv (.map _) rfl rfl rfl ?_))))))))
 refine xf 0 zav rfl (xL3 1 zaa rfl rfl (xmi rfl (TL.callD [] [] (zf4 hl) ⟨rfl,rfl,trivial⟩ trivial zmz rfl rfl rfl rfl rfl trivial (TL.muA 5 (q:=_) (b:=true) rfl rfl rfl rfl zdt (zj8 za1) rfl rfl trivial (dI (xmi rfl (TL.add (((t+2:Nat):Int)) rfl rfl (wrN (by omega)) rfl rfl (xai rfl ?_))))))))
 refine TL.done (TQ.roundK ((t+1,_)) ⟨⟨(show t+1≤l.T by omega),hK.put fun z hz=>KpT.succ hz⟩,(show l.T - (t+1)<l.T - t by omega)⟩ ⟨rfl,trivial⟩ ⟨rfl,trivial⟩ (kE7 rfl rfl rfl rfl rfl rfl rfl trivial) (kL5 rfl rfl rfl rfl rfl trivial))
 refine dE rfl (TC.seq (TC.seq ?_))
 obtain rfl:t=l.T:=by omega
 refine TC.region (xai rfl (dK (TC.loopK (X:=Nat×List (Int×Bool)) [1,2,3,6,7,8,9] [0,1,2,3,4] (fun ⟨x,qx⟩=>[(11,.int .i64 ((x+1:Nat):Int))]) (fun ⟨x,qx⟩=>[(5,mapA bk5 (fun z:Int=>.int .i64 z) Value.bool qx)]) (fun ⟨x,qx⟩=>(x:Int)≤l.nodes∧Kp qx (fun z=>KpT l l.T z∨KpN l (x:Int) z)) (fun ⟨x,qx⟩=>l.nodes.toNat - x) ((0,qs)) ⟨(by show ((0:Nat):Int)≤_; omega),hK.mono fun z hz=>hz.resolve_right KpN.zero⟩ ⟨rfl,trivial⟩ ⟨rfl,trivial⟩ (fun y hI=>?_))))
 obtain ⟨x,qx⟩:=y
 obtain ⟨hx,hKx⟩:=hI
 replace hx:(x:Int)≤l.nodes:=hx
 replace hKx:Kp qx (fun z=>KpT l l.T z∨KpN l (x:Int) z):=hKx
 refine TC.sub (env':=[(11,_),(1,_),(2,_),(3,_),(6,_),(7,_),(8,_),(9,_)]) (L':=[(5,_),(0,_),(1,_),(2,_),(3,_),(4,_)]) ⟨rfl,rfl,rfl,rfl,rfl,rfl,rfl,rfl,trivial⟩ ⟨rfl,rfl,rfl,rfl,rfl,rfl,trivial⟩ (sB (xmi rfl (xf 0 zav rfl (xL3 1 zaa rfl rfl (TL.callD [] [] (zch hl) ⟨rfl,trivial⟩ trivial zea rfl rfl rfl rfl rfl trivial (TL.leq rfl rfl rfl rfl (fun q4=>?_) (fun q4=>?_)))))))
 refine TL.done (TQ.then (TC.condT rfl (TC.skip (TQ.then (TC.seq (TC.block (sA (xf 0 zav rfl ?_))))))))
 refine xL3 1 zaa rfl rfl (xmi rfl (TL.callD [] [] (zei hl) ⟨rfl,rfl,trivial⟩ trivial zgk rfl rfl rfl rfl rfl trivial (xmu rfl (TL.ext (.agg _) rfl rfl rfl rfl (TL.ext (.bool _) rfl rfl rfl rfl (TL.alloc 6 (cs:=#[.bool false,.int .i64 0,.int .i64 0,.int .i64 0,.int .i64 0]) zdE rfl rfl rfl (fun _=>trivial) (fun bk6=>(TL.stW 6 5 [_,_,_,_,_] rfl rfl rfl rfl rfl rfl zbz rfl rfl trivial (xab rfl ?_)))))))))
 refine dA (xf 1 zdV rfl (xli 6 zaf rfl rfl (TL.eql rfl rfl rfl rfl (fun q5=>?_) (fun q5=>?_))))
 refine dT rfl (TL.mv (.map _) rfl rfl rfl (xf 0 zav rfl (xL3 1 zaa rfl rfl (xmi rfl (TL.callD [] [] (zaP hl) ⟨rfl,rfl,rfl,trivial⟩ trivial zbH rfl rfl rfl rfl rfl trivial (TL.muA 5 (q:=_) (b:=true) rfl rfl rfl rfl zdt (zj8 za1) rfl rfl trivial (dG (TL.mv (.map _) rfl rfl rfl ?_))))))))
 refine xf 0 zav rfl (xL3 1 zaa rfl rfl (xmi rfl (TL.callD [] [] (zaP hl) ⟨rfl,rfl,rfl,trivial⟩ trivial zbH rfl rfl rfl rfl rfl trivial (TL.muA 5 (q:=_) (b:=true) rfl rfl rfl rfl zdt (zj8 za1) rfl rfl trivial (dI (xmi rfl (TL.add (((x+2:Nat):Int)) rfl rfl (wrN (by omega)) rfl rfl (xai rfl ?_))))))))
 refine TL.done (TQ.roundK ((x+1,_)) ⟨⟨(show ((x+1:Nat):Int)≤l.nodes by omega),(hKx.put (P':=fun z=>KpT l l.T z∨KpN l (x:Int) z∨z=l.field ((x:Int)+1) 2) fun z hz=>hz.elim (fun h=>.inl (.inl h)) (fun h=>h.elim (fun h=>.inl (.inr h)) .inr)).put fun z hz=>hz.elim (fun h=>.inl (.inl h)) (fun h=>(KpN.succ h).elim (fun h=>.inl (.inr (.inl h))) (fun h=>h.2.elim (fun h=>.inl (.inr (.inr h))) .inr))⟩,(show l.nodes.toNat - (x+1)<l.nodes.toNat - x by omega)⟩ ⟨rfl,trivial⟩ ⟨rfl,trivial⟩ (kE7 rfl rfl rfl rfl rfl rfl rfl trivial) (kL5 rfl rfl rfl rfl rfl trivial))
 refine TL.done (TQ.then (TC.condF rfl (TC.skip (TQ.inBlock (TQ.then (TC.region (xmi rfl (TL.add (((x+2:Nat):Int)) rfl rfl (wrN (by omega)) rfl rfl ?_))))))))
 refine xai rfl (TL.done (TQ.roundK ((x+1,qx)) ⟨⟨(show ((x+1:Nat):Int)≤l.nodes by omega),hKx.mono fun z hz=>hz.elim .inl (fun h=>(KpN.succ h).elim .inr (fun h=>absurd h.1 (by assumption)))⟩,(show l.nodes.toNat - (x+1)<l.nodes.toNat - x by omega)⟩ ⟨rfl,trivial⟩ ⟨rfl,trivial⟩ (kE7 rfl rfl rfl rfl rfl rfl rfl trivial) (kL5 rfl rfl rfl rfl rfl trivial)))
 refine dE rfl (TC.seq (TC.seq ?_))
 obtain rfl:x=l.nodes.toNat:=by omega
 obtain ⟨NC,hNC⟩:∃ z:Nat,l.cells=(z:Int):=⟨l.cells.toNat,by omega⟩
 refine TC.region (xf 0 zav rfl (xL3 1 zaa rfl rfl (TL.callD [] [] (zkp hl) ⟨rfl,trivial⟩ trivial zo8 rfl rfl rfl rfl rfl trivial (xmi rfl (dK (TC.loopK (X:=Nat×M) [1,2,3,6,7,8,9,86] [0,1,2,3,5] (fun ⟨i,τ⟩=>[(87,.int .i64 ((i:Nat):Int))]) (fun ⟨i,τ⟩=>[(4,zaF ab2 mb2 140 71 (τ))]) (fun ⟨i,τ⟩=>(i:Int)≤l.cells∧OthM qx (bmem l cm σ2) τ) (fun ⟨i,τ⟩=>l.cells.toNat - i) ((0,bmem l cm σ2)) ⟨(by show ((0:Nat):Int)≤_; omega),rfl,fun _ _=>rfl⟩ ⟨rfl,trivial⟩ ⟨rfl,trivial⟩ (fun y hI=>?_)))))))
 obtain ⟨i,τ⟩:=y
 obtain ⟨hi,hO⟩:=hI
 replace hi:(i:Int)≤l.cells:=hi
 replace hO:OthM qx (bmem l cm σ2) τ:=hO
 refine TC.sub (env':=[(87,_),(1,_),(2,_),(3,_),(6,_),(7,_),(8,_),(9,_),(86,_)]) (L':=[(4,_),(0,_),(1,_),(2,_),(3,_),(5,_)]) ⟨rfl,rfl,rfl,rfl,rfl,rfl,rfl,rfl,rfl,trivial⟩ ⟨rfl,rfl,rfl,rfl,rfl,rfl,trivial⟩ (sA (TL.lss rfl rfl rfl rfl (fun q5=>?_) (fun q5=>?_)))
 refine dS (TC.condT rfl (TC.skip (TQ.then (TC.seq (TC.block (sA (xmi rfl (xai rfl ?_))))))))
 refine dA (TL.mv (.map _) rfl rfl rfl (xmi rfl (TL.lkD1 5 (q:=(i:Int)) (false) rfl rfl rfl zdt (zj8 za1) zrb rfl rfl trivial (TL.cases rfl (fun q6=>?_) (fun q6=>?_)))))
 refine xnt rfl (TL.done (TQ.then (TC.condF rfl (TC.skip (TQ.inBlock (TQ.then (TC.region (TL.add (((i+1:Nat):Int)) rfl rfl (wrN (by omega)) rfl rfl ?_))))))))
 refine xmi rfl (TL.done (TQ.roundK ((i+1,_)) ⟨⟨(show ((i+1:Nat):Int)≤l.cells by omega),hO⟩,(show l.cells.toNat - (i+1)<l.cells.toNat - i by omega)⟩ ⟨rfl,trivial⟩ ⟨rfl,trivial⟩ (kE8 rfl rfl rfl rfl rfl rfl rfl rfl trivial) (kL5 rfl rfl rfl rfl rfl trivial)))
 refine xnf rfl (TL.done (TQ.then (TC.condT rfl (TC.region (xmp rfl (xmi rfl (xmi rfl (TL.callD [4] [4] (ziM hot) ⟨rfl,rfl,rfl,trivial⟩ ⟨rfl,trivial⟩ zo3 rfl rfl rfl rfl rfl trivial ?_))))))))
 refine dI (TL.add (((i+1:Nat):Int)) rfl rfl (wrN (by omega)) rfl rfl (xmi rfl (TL.done (TQ.roundK ((i+1,_)) ⟨⟨(show ((i+1:Nat):Int)≤l.cells by omega),hO.st (by assumption)⟩,(show l.cells.toNat - (i+1)<l.cells.toNat - i by omega)⟩ ⟨rfl,trivial⟩ ⟨rfl,trivial⟩ (kE8 rfl rfl rfl rfl rfl rfl rfl rfl trivial) (kL5 rfl rfl rfl rfl rfl trivial)))))
 refine dS (TC.condF rfl (TC.exit (TQ.thenExit (TQ.thenExit (TQ.blockHere (TQ.then (TC.seq ?_)))))))
 have hA:=hO.alike hl (hKx.mono (fun z hz=>by rwa [show ((l.nodes.toNat:Nat):Int)=l.nodes by omega]))
 refine TC.draw [(0,true),(1,true),(2,true),(4,true),(5,true),(6,true),(3,false),(7,false),(8,true),(9,true)] [1] fc_m (by kernel_rfl) (xf 0 zav rfl (xL3 1 zaa rfl rfl (xmi rfl (xf 0 zav rfl (xL3 1 zaa rfl rfl (xmi rfl (TL.call [] [7] (zjF hl) ⟨rfl,rfl,trivial⟩ trivial zmE rfl rfl rfl rfl ?_)))))))
 rintro x Bs ⟨cb,rfl,rfl⟩
 refine ⟨rfl,(kL1 rfl trivial),?_⟩
 refine TL.call [] [8] (zjF hl) ⟨rfl,rfl,trivial⟩ trivial zmE rfl rfl rfl rfl ?_
 rintro x Bs ⟨cb2,rfl,rfl⟩
 refine ⟨rfl,(kL1 rfl trivial),?_⟩
 refine xap rfl (xap rfl (dB (xmp rfl (TL.nilP false rfl rfl zmv rfl rfl rfl (xmf rfl (xmp rfl (TL.nilP false rfl rfl zmv rfl rfl rfl (xpF rfl ?_))))))))
 refine TL.done (TQ.then (TC.condF rfl (TC.skip (TQ.then (sB (xai rfl (dK (TC.loopK (X:=Nat) [3,7,8,15,16] [0,1,2,3,4,5] (fun k=>[(17,.int .i64 ((k:Nat):Int))]) (fun k=>[(7,zaB 157 189 cb l (Go.Tm.runN l (bmem l cm σ2) k (zaM l v))),(8,zaB 157 189 cb2 l (Go.Tm.runN l (bmem l cm σ2) k (zaM l v)))]) (fun k=>k≤N) (fun k=>N - k) (0) (Nat.zero_le _) ⟨rfl,trivial⟩ ⟨rfl,rfl,trivial⟩ (fun k hI=>?_)))))))))
 refine TC.sub (env':=[(17,_),(3,_),(7,_),(8,_),(15,_),(16,_)]) (L':=[(7,_),(8,_),(0,_),(1,_),(2,_),(3,_),(4,_),(5,_)]) ⟨rfl,rfl,rfl,rfl,rfl,rfl,trivial⟩ ⟨rfl,rfl,rfl,rfl,rfl,rfl,rfl,rfl,trivial⟩ (sB (xmp rfl (TL.callD [7] [7] zh1 ⟨rfl,trivial⟩ ⟨rfl,trivial⟩ zmC rfl rfl rfl rfl rfl trivial (TL.cases rfl (fun q6=>?_) (fun q6=>?_)))))
 refine xnt rfl (xmf rfl (xmp rfl (TL.callD [8] [8] zh1 ⟨rfl,trivial⟩ ⟨rfl,trivial⟩ zmC rfl rfl rfl rfl rfl trivial (TL.cases rfl (fun q7=>?_) (fun q7=>?_)))))
 refine xnt rfl (xpF rfl (dE rfl (sA (xmp rfl (TL.callD [7] [7] zhX ⟨rfl,trivial⟩ ⟨rfl,trivial⟩ zmD rfl rfl rfl rfl rfl trivial (xmp rfl (TL.callD [8] [8] zhX ⟨rfl,trivial⟩ ⟨rfl,trivial⟩ zmD rfl rfl rfl rfl rfl trivial (TL.eqlT rfl rfl rfl rfl rfl ?_))))))))
 refine xmt rfl (xmp rfl (TL.callD [7] [7] zeq ⟨rfl,trivial⟩ ⟨rfl,trivial⟩ zmB rfl rfl rfl rfl rfl trivial (xmp rfl (TL.callD [8] [8] zeq ⟨rfl,trivial⟩ ⟨rfl,trivial⟩ zmB rfl rfl rfl rfl rfl trivial (TL.eqlT rfl rfl rfl rfl rfl (xpT rfl (xmt rfl (xmp rfl ?_))))))))
 refine TL.callD [7] [7] zgs ⟨rfl,trivial⟩ ⟨rfl,trivial⟩ zmA rfl rfl rfl rfl rfl trivial (xmp rfl (TL.callD [8] [8] zgs ⟨rfl,trivial⟩ ⟨rfl,trivial⟩ zmA rfl rfl rfl rfl rfl trivial (TL.eqlT rfl rfl rfl rfl rfl (xpT rfl (xmt rfl (TL.callD [] [] zd0 trivial trivial zkg rfl rfl rfl rfl rfl trivial (xpT rfl (xat rfl ?_))))))))
 refine dR ?_
 refine FQ.ret1 (v:=(.bool true)) (Bs:=[_]) [0] rfl rfl rfl ⟨rfl,trivial⟩ ?_
 exact ⟨rfl,rfl⟩
 refine xnf rfl (xpH rfl (TL.done (TQ.then (TC.condT rfl (TC.skip (TQ.then (TC.seq (TC.block ?_))))))))
 refine TC.seq ?_
 have hkN:k<N:=by
   rcases Nat.lt_or_ge k N with h | h
   ·exact h
   ·obtain rfl:k=N:=by omega
    have:=hE.dn; simp_all
 refine TC.region (xmp rfl (xmp rfl (xN0 rfl (xf 3 zdW rfl (xlp 2 zgW rfl rfl (TL.callD [7,3] [7,3] (zeV hl) ⟨rfl,rfl,trivial⟩ ⟨rfl,rfl,trivial⟩ zg4 rfl rfl rfl rfl rfl trivial ?_))))))
 rw [←zcF]
 refine xmp rfl (xmp rfl (TL.callD [8,4] [8,4] (zeV hl) ⟨rfl,rfl,trivial⟩ ⟨rfl,rfl,trivial⟩ zg4 rfl rfl rfl rfl rfl trivial ?_))
 rw [zif hl hS hA ⟨by omega,by omega⟩ (by omega)]
 refine TL.neqB rfl rfl zqv rfl rfl ?_
 rw [show ∀ a:Bool,(!(a == a))=false from by decide]
 refine xmf rfl (xmi rfl (xf 0 zav rfl (xL3 1 zaa rfl rfl (TL.callD [] [] (zch hl) ⟨rfl,trivial⟩ trivial zea rfl rfl rfl rfl rfl trivial (TL.mul _ rfl rfl (wr64 (by omega)) rfl rfl (TL.add _ rfl rfl (wr64 (by omega)) rfl rfl (TL.gtrF rfl rfl (by omega) rfl rfl (xpF rfl ?_))))))))
 refine TL.done (TQ.then (TC.condF rfl (TC.skip (TQ.inBlock (TQ.then (TC.region (xmi rfl (TL.add (((k+1:Nat):Int)) rfl rfl (wrN (by omega)) rfl rfl ?_))))))))
 refine xai rfl (TL.done (TQ.roundK (k+1) ⟨(by omega),(by omega)⟩ ⟨rfl,trivial⟩ ⟨rfl,rfl,trivial⟩ (kE5 rfl rfl rfl rfl rfl trivial) (kL6 rfl rfl rfl rfl rfl rfl trivial)))
 refine xnf rfl (xmt rfl (xo rfl (xo rfl (xo rfl (xpT rfl (TL.done (TQ.then (TC.condT rfl ?_))))))))
 refine TC.skip (TQ.then (TC.seq (TC.block (TC.seq ?_))))
 have hkN:k<N:=by
   rcases Nat.lt_or_ge k N with h | h
   ·exact h
   ·obtain rfl:k=N:=by omega
    have:=hE.dn; simp_all
 refine TC.region (xmp rfl (xmp rfl (xN0 rfl (xf 3 zdW rfl (xlp 2 zgW rfl rfl (TL.callD [7,3] [7,3] (zeV hl) ⟨rfl,rfl,trivial⟩ ⟨rfl,rfl,trivial⟩ zg4 rfl rfl rfl rfl rfl trivial ?_))))))
 rw [←zcF]
 refine xmp rfl (xmp rfl (TL.callD [8,4] [8,4] (zeV hl) ⟨rfl,rfl,trivial⟩ ⟨rfl,rfl,trivial⟩ zg4 rfl rfl rfl rfl rfl trivial ?_))
 rw [zif hl hS hA ⟨by omega,by omega⟩ (by omega)]
 refine TL.neqB rfl rfl zqv rfl rfl ?_
 rw [show ∀ a:Bool,(!(a == a))=false from by decide]
 refine xmf rfl (xmi rfl (xf 0 zav rfl (xL3 1 zaa rfl rfl (TL.callD [] [] (zch hl) ⟨rfl,trivial⟩ trivial zea rfl rfl rfl rfl rfl trivial (TL.mul _ rfl rfl (wr64 (by omega)) rfl rfl (TL.add _ rfl rfl (wr64 (by omega)) rfl rfl (TL.gtrF rfl rfl (by omega) rfl rfl (xpF rfl ?_))))))))
 refine TL.done (TQ.then (TC.condF rfl (TC.skip (TQ.inBlock (TQ.then (TC.region (xmi rfl (TL.add (((k+1:Nat):Int)) rfl rfl (wrN (by omega)) rfl rfl ?_))))))))
 refine xai rfl (TL.done (TQ.roundK (k+1) ⟨(by omega),(by omega)⟩ ⟨rfl,trivial⟩ ⟨rfl,rfl,trivial⟩ (kE5 rfl rfl rfl rfl rfl trivial) (kL6 rfl rfl rfl rfl rfl rfl trivial)))
end Go.Proofs.YtjnpjkfliochbaaGreat
