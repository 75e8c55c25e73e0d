import Derived.Test.YtabjfnfglcghfaaGreatConB
set_option linter.unusedVariables false
set_option linter.unusedSimpArgs false
set_option maxRecDepth 20000
namespace Go.Proofs.YtabjfnfglcghfaaGreat
open Go.Eng Go.Tm
theorem zvU {l:Lay} (hl:l.Ok) {pb ab mb:Nat} {tg:Int} {av:Value} {σ:Array UInt64} {wa ra:Option Addr} {wn wc rc br offr:Nat} {A1:Assn} {pq:Int} {tr:Bool} {d:Array Int} (hra:0<d.size->ra=some ⟨br,offr,none⟩) (hA1:zbj A1 Tm.encI 1 br offr d.size (fun i=>d[i]!)) (hdz:d.size<=2) (htg:0<=tg/\tg<=1000)  : FnD Tryz.prog 60 [.pointer (some ⟨pb,0,none⟩),.agg #[.slice wa wn wc,.int .i64 pq,.bool tr,.slice ra d.size rc]] [pt pb (.cells #[.int .i64 l.V,.int .i64 l.S,.int .i64 l.T,.pointer (some ⟨ab,0,none⟩),.int .i64 (tg),av] 57),zal ab mb 139 29 (σ),A1] (.tuple #[]) [pt pb (.cells #[.int .i64 l.V,.int .i64 l.S,.int .i64 l.T,.pointer (some ⟨ab,0,none⟩),.int .i64 (if tr then tg+1 else tg),av] 57),zal ab mb 139 29 (zbq l d [] 0 d.size σ),A1]:=by
 refine Fn.enter (Tryz.func60) Z Z (fun w0 R=>?_)
 refine sA (xB 3 Z (fun bk3=>(dB (xf 3 zdo Z (xls 3 zeU Z Z (xz zah Z (xmi Z (dK (TC.loopK (X:=Nat) [0,3,7,8] [0,2,3] (fun k=>[(9,.int .i64 ((k:Nat):Int))]) (fun k=>[(1,zal ab mb 139 29 (zbq l d [] 0 k σ))]) (fun k=>k<=d.size) (fun k=>d.size - k) (0) (Nat.zero_le _) ⟨Z,Zt⟩ ⟨Z,Zt⟩ (fun k hI=>?_))))))))))
 refine TC.sub (env':=[(9,_),(0,_),(3,_),(7,_),(8,_)]) (L':=[(1,_),(0,_),(2,_),(3,_)]) ⟨Z,Z,Z,Z,Z,Zt⟩ ⟨Z,Z,Z,Z,Zt⟩ (sA (TL.lss Z Z Z Z (fun q1=>?_) (fun q1=>?_)))
 refine dS (TC.condT Z (TC.skip (TQ.then (TC.seq (TC.block (sA (TL.iaO Z hra Z zah (by omega) Z Z (TL.ldRS 2 (.int _ _) Z Z hA1 (by omega) (Z) zad Z Z ?_))))))))
 refine xai Z (TL.done (TQ.then (TC.draw (od [1,3,5,7,9,11,13,15,17,18,20]) [0] fc_m (by kernel_rfl) (xmp Z (xN0 Z (xf 3 zci Z (xlp 0 zdU Z Z (xmp Z ?_))))))))
 refine xN0 Z (xf 0 zaF Z (xL3 0 zab Z Z (xmi Z (xd [] (zbc hl) zcq Z (kL1 Z Zt) (xd [1] (ze6 (by decide)) zkO Z (kL1 Z Zt) (dI (TL.add (((k+1:Nat):Int)) Z Z (wrN (by omega)) Z Z (xmi Z ?_))))))))
 refine TL.done (TQ.roundK (k+1) ⟨by omega,by omega⟩ ⟨Z,Zt⟩ ⟨congrArg (fun z=>some (zal ab mb 139 29 (z))) zqC,Zt⟩ (kE4 Z Z Z Z Zt) (kL3 Z Z Z Zt))
 refine dS (TC.condF Z (TC.exit (TQ.thenExit (TQ.thenExit (TQ.blockHere (TQ.then (sA (xf 2 ze0 Z ?_))))))))
 refine xlb 3 zd3 Z Z (TL.done (TQ.then (TC.cond Z (fun q2=>?_) (fun q2=>?_))))
 refine TC.region (xmp Z (xN0 Z (xf 4 zeZ Z (xli 0 zad Z Z (TL.add _ Z Z (wr64 (by omega)) Z Z (xN0 Z (xf 4 zeZ Z (TL.st 0 #[_,_,_,_,_,_] (.int _ _) Z Z Z Z Z Z zad Z Z Zt ?_))))))))
 refine TL.done ?_
 refine FQ.end0 (Bs:=[_,_,A1]) [0,1,2] Z Z ⟨Z,Z,Z,Zt⟩ ?_
 obtain rfl:k=d.size:=by omega
 exact ⟨Z,by rw [Zp (by assumption)]⟩
 refine TC.skip ?_
 refine FQ.end0 (Bs:=[_,_,A1]) [0,1,2] Z Z ⟨Z,Z,Z,Zt⟩ ?_
 obtain rfl:k=d.size:=by omega
 exact ⟨Z,by rw [Zn (by simp_all)]⟩
theorem zrA {a1:Option Addr} {b1 o1 n1 c1:Nat} {A1:Assn} {d1:Array Int} (ha1:0<n1->a1=some ⟨b1,o1,none⟩) (hn1:n1<=137438953472) (hs1:d1.size=n1) (hA1:zbj A1 Tm.encI 1 b1 o1 n1 (fun i=>d1[i]!)) {a2:Option Addr} {b2 o2 n2 c2:Nat} {A2:Assn} {d2:Array Int} (ha2:0<n2->a2=some ⟨b2,o2,none⟩) (hn2:n2<=137438953472) (hs2:d2.size=n2) (hA2:zbj A2 Tm.encI 1 b2 o2 n2 (fun i=>d2[i]!))  : FnD Tryz.prog 29 [.slice a1 n1 c1,.slice a2 n2 c2] [A1,A2] (.bool (decide (d1=d2))) [A1,A2]:=by
 refine Fn.enter (Tryz.func29) Z Z (fun w0 R=>?_)
 refine sA (xaf Z (dB (xms Z (xz zah Z (xms Z (xz zah Z (TL.neq Z Z Z Z (fun q1=>?_) (fun q1=>?_))))))))
 refine dT Z (xaf Z (dRR ?_))
 refine FQ.ret1 (v:=(.bool false)) (Bs:=[A1,A2]) [0,1] Z Z Z ⟨Z,Z,Zt⟩ ?_
 exact ⟨congrArg Value.bool (decide_eq_false fun c=>by subst c; omega).symm,Z⟩
 refine TL.done (TQ.then (TC.condF Z (TC.skip (TQ.then (sB (xms Z (xz zah Z (xmi Z ?_))))))))
 refine dK (TC.loopK (X:=Nat) [0,1,12] [0,1] (fun k=>[(13,.int .i64 ((k:Nat):Int))]) (fun k=>[]) (fun k=>k<=n1/\∀ i,i<k->d1[i]! =d2[i]!) (fun k=>n1 - k) (0) ⟨Nat.zero_le _,fun i hi=>absurd hi (Nat.not_lt_zero i)⟩ ⟨Z,Zt⟩ Zt (fun k hI=>?_))
 obtain ⟨hk,hI⟩:=hI
 refine TC.sub (env':=[(13,_),(0,_),(1,_),(12,_)]) (L':=[(0,_),(1,_)]) ⟨Z,Z,Z,Z,Zt⟩ ⟨Z,Z,Zt⟩ (sA (TL.lss Z Z Z Z (fun q2=>?_) (fun q2=>?_)))
 refine dS (TC.condT Z (TC.skip (TQ.then (TC.seq (TC.block (sA (xmi Z (xai Z ?_))))))))
 refine dS (TC.draw (od [1,3,5,7,9,11,13,15,17]) [0,1] fc_m (by kernel_rfl) (xms Z (xmi Z (TL.iaO Z ha1 Z zah (by omega) Z Z (TL.ldRS 0 (.int _ _) Z Z hA1 (by omega) (Z) zad Z Z (xms Z (xmi Z (TL.iaO Z ha2 Z zah (by omega) Z Z ?_))))))))
 refine TL.ldRS 1 (.int _ _) Z Z hA2 (by omega) (Z) zad Z Z (TL.neq Z Z Z Z (fun q3=>?_) (fun q3=>?_))
 refine dT Z (xaf Z (dR (TQ.blockRet (TQ.thenRet (TQ.thenRet (TQ.blockRet (TQ.thenRet ?_)))))))
 refine FQ.ret1 (v:=(.bool false)) (Bs:=[A1,A2]) [0,1] Z Z Z ⟨Z,Z,Zt⟩ ?_
 exact ⟨congrArg Value.bool (decide_eq_false fun c=>by subst c; contradiction).symm,Z⟩
 refine TL.done (TQ.then (TC.condF Z (TC.skip (TQ.inBlock (TQ.then (TC.region (TL.add (((k+1:Nat):Int)) Z Z (wrN (by omega)) Z Z (xmi Z ?_))))))))
 refine TL.done (TQ.roundK (k+1) ⟨⟨by omega,zqw hI (by assumption)⟩,by omega⟩ ⟨Z,Zt⟩ Zt (kE3 Z Z Z Zt) (kL2 Z Z Zt))
 refine dS (TC.condF Z (TC.exit (TQ.thenExit (TQ.thenExit (TQ.blockHere (TQ.then (sA (xat Z ?_))))))))
 refine dR ?_
 refine FQ.ret1 (v:=(.bool true)) (Bs:=[A1,A2]) [0,1] Z Z Z ⟨Z,Z,Zt⟩ ?_
 exact ⟨congrArg Value.bool (decide_eq_true (zzF (by omega) fun i hi=>hI i (by omega))).symm,Z⟩
theorem zvq {l:Lay} (hl:l.Ok) {pb ab mb:Nat} {tg:Int} {av:Value} {σ:Array UInt64} {d:Array EdR} {o:Op3} (hd:d.size<=100) (hsl:∀ j,j<d.size->0<=d[j]!.slot/\d[j]!.slot<l.S) (hx:o.u=o.v\/o.u<0\/l.V<=o.u\/o.v<0\/l.V<=o.v):FnD Tryz.prog 54 [.pointer (some ⟨pb,0,none⟩),.agg #[.int .i64 o.kind,.int .i64 o.u,.int .i64 o.v]] [pt pb (.cells #[.int .i64 l.V,.int .i64 l.S,.int .i64 l.T,.pointer (some ⟨ab,0,none⟩),.int .i64 (tg),av] 57),zal ab mb 139 29 (σ),ownA encE 5 80 av d] (.tuple #[.agg #[.slice none 0 0,.int .i64 0,.bool false,.slice none 0 0],.slice none 0 0,.bool false]) [pt pb (.cells #[.int .i64 l.V,.int .i64 l.S,.int .i64 l.T,.pointer (some ⟨ab,0,none⟩),.int .i64 (tg),av] 57),zal ab mb 139 29 (σ),ownA encE 5 80 av d,ownA zav 3 34 (.slice none 0 0) ((#[]:Array Acc)),rowS (.slice none 0 0) #[],rowS (.slice none 0 0) #[]]:=by
 have hb:=zdP hl
 refine Fn.enter (Tryz.func54) Z Z (fun w0 R=>?_)
 refine sA (xB 3 Z (fun bk3=>(TL.alloc 4 (cs:=#[.slice none 0 0,.int .i64 0,.bool false,.slice none 0 0]) zb1 Z Z Z (fun _=>Zt) (fun bk4=>(TL.asg (.slice none 0 0) Z Z Z (xaf Z (dS (TC.seq (TC.draw (od [1,3,5,7,9,11,13,15,17,19,21,23,25,27,29,31,33,35,37,39,41,43,45,47,49,51,53,55,57,59,61,63,65,67,69]) [0,3] fc_m (by kernel_rfl) (xf 1 zaY Z ?_))))))))))
 refine xli 3 zad Z Z (xf 2 zaX Z (xli 3 zad Z Z (TL.eql Z Z Z Z (fun q1=>?_) (fun q1=>?_))))
 refine xmt Z (xo Z (xo Z (xo Z (xpT Z (xmt Z (xo Z (xo Z (xo Z ?_))))))))
 refine xo Z (xo Z (xo Z (xo Z (xo Z (xpT Z (xmt Z (xo Z (xo Z ?_))))))))
 refine xo Z (xpT Z (xmt Z (xo Z (xo Z (xo Z (xo Z (xo Z (xo Z ?_))))))))
 refine xo Z (xo Z (xpT Z (TL.done (TQ.then (TC.condT Z (TC.seq (TC.nilA 5 (A:=ownA zav 3 34 (.slice none 0 0) ((#[]:Array Acc))) (.inl ⟨Z,Z⟩) (TC.nilA 6 (A:=rowS (.slice none 0 0) #[]) za2 ?_))))))))
 refine TC.nilA 7 (A:=rowS (.slice none 0 0) #[]) za2 (TC.region (TL.bld [.slice none 0 0,.int .i64 0,.bool false,.slice none 0 0] [] [_,_,_,_] zb1 zeV Zt ⟨Z,Z⟩ Z Z (TL.stW 4 4 [_,_,_,_] Z Z Z Z Z Z zat Z Z Zt (TL.asg (.slice none 0 0) Z Z Z (xaf Z (dRR ?_))))))
 refine FQ.retG (rs:=[.cell 4 50,.tmp 5,.tmp 6]) [(.agg _),(.slice none 0 0),(.bool false)] (Bs:=[_,_,_,_,_,_]) [0,1,2,5,6,7] Z ⟨⟨_,_,_,_,_,4,Z,Z,.inr ⟨4,[_,_,_,_],zat,Z,Z⟩⟩,Z,Z,Zt⟩ Z Z ⟨Z,Z,Z,Z,Z,Z,Zt⟩ ?_
 exact ⟨Z,Z⟩
 refine xmf Z (xf 1 zaY Z (xli 3 zad Z Z (TL.lss Z Z Z Z (fun q2=>?_) (fun q2=>?_))))
 refine xpH Z (xmt Z (xo Z (xo Z (xo Z (xo Z (xo Z (xo Z (xo Z ?_))))))))
 refine xo Z (xpT Z (xmt Z (xo Z (xo Z (xo Z (xpT Z (xmt Z (xo Z ?_))))))))
 refine xo Z (xo Z (xo Z (xo Z (xo Z (xo Z (xo Z (xpT Z (TL.done ?_))))))))
 refine TQ.then (TC.condT Z (TC.seq (TC.nilA 8 (A:=ownA zav 3 34 (.slice none 0 0) ((#[]:Array Acc))) (.inl ⟨Z,Z⟩) (TC.nilA 9 (A:=rowS (.slice none 0 0) #[]) za2 (TC.nilA 10 (A:=rowS (.slice none 0 0) #[]) za2 (TC.region (TL.bld [.slice none 0 0,.int .i64 0,.bool false,.slice none 0 0] [] [_,_,_,_] zb1 zeV Zt ⟨Z,Z⟩ Z Z (TL.stW 4 4 [_,_,_,_] Z Z Z Z Z Z zat Z Z Zt ?_))))))))
 refine TL.asg (.slice none 0 0) Z Z Z (xaf Z (dRR ?_))
 refine FQ.retG (rs:=[.cell 4 50,.tmp 5,.tmp 6]) [(.agg _),(.slice none 0 0),(.bool false)] (Bs:=[_,_,_,_,_,_]) [0,1,2,8,9,10] Z ⟨⟨_,_,_,_,_,4,Z,Z,.inr ⟨4,[_,_,_,_],zat,Z,Z⟩⟩,Z,Z,Zt⟩ Z Z ⟨Z,Z,Z,Z,Z,Z,Zt⟩ ?_
 exact ⟨Z,Z⟩
 refine xpF Z (xmf Z (xf 1 zaY Z (xli 3 zad Z Z (xmp Z (xN0 Z (xf 0 zaF Z (xf 0 zaJ Z (xli 0 zad Z Z ?_))))))))
 refine TL.geq Z Z Z Z (fun q3=>?_) (fun q3=>?_)
 refine xpH Z (xmt Z (xo Z (xo Z (xo Z (xpT Z (xmt Z (xo Z (xo Z ?_))))))))
 refine xo Z (xo Z (xo Z (xo Z (xo Z (xo Z (xpT Z (TL.done (TQ.then ?_))))))))
 refine TC.condT Z (TC.seq (TC.nilA 11 (A:=ownA zav 3 34 (.slice none 0 0) ((#[]:Array Acc))) (.inl ⟨Z,Z⟩) (TC.nilA 12 (A:=rowS (.slice none 0 0) #[]) za2 (TC.nilA 13 (A:=rowS (.slice none 0 0) #[]) za2 (TC.region (TL.bld [.slice none 0 0,.int .i64 0,.bool false,.slice none 0 0] [] [_,_,_,_] zb1 zeV Zt ⟨Z,Z⟩ Z Z (TL.stW 4 4 [_,_,_,_] Z Z Z Z Z Z zat Z Z Zt (TL.asg (.slice none 0 0) Z Z Z ?_))))))))
 refine xaf Z (dRR ?_)
 refine FQ.retG (rs:=[.cell 4 50,.tmp 5,.tmp 6]) [(.agg _),(.slice none 0 0),(.bool false)] (Bs:=[_,_,_,_,_,_]) [0,1,2,11,12,13] Z ⟨⟨_,_,_,_,_,4,Z,Z,.inr ⟨4,[_,_,_,_],zat,Z,Z⟩⟩,Z,Z,Zt⟩ Z Z ⟨Z,Z,Z,Z,Z,Z,Zt⟩ ?_
 exact ⟨Z,Z⟩
 refine xpF Z (xmf Z (xf 2 zaX Z (xli 3 zad Z Z (TL.lss Z Z Z Z (fun q4=>?_) (fun q4=>?_)))))
 refine xpH Z (xmt Z (xo Z (xo Z (xo Z (xo Z (xo Z (xo Z (xo Z ?_))))))))
 refine xo Z (xpT Z (TL.done (TQ.then (TC.condT Z (TC.seq (TC.nilA 14 (A:=ownA zav 3 34 (.slice none 0 0) ((#[]:Array Acc))) (.inl ⟨Z,Z⟩) (TC.nilA 15 (A:=rowS (.slice none 0 0) #[]) za2 (TC.nilA 16 (A:=rowS (.slice none 0 0) #[]) za2 ?_))))))))
 refine TC.region (TL.bld [.slice none 0 0,.int .i64 0,.bool false,.slice none 0 0] [] [_,_,_,_] zb1 zeV Zt ⟨Z,Z⟩ Z Z (TL.stW 4 4 [_,_,_,_] Z Z Z Z Z Z zat Z Z Zt (TL.asg (.slice none 0 0) Z Z Z (xaf Z (dRR ?_)))))
 refine FQ.retG (rs:=[.cell 4 50,.tmp 5,.tmp 6]) [(.agg _),(.slice none 0 0),(.bool false)] (Bs:=[_,_,_,_,_,_]) [0,1,2,14,15,16] Z ⟨⟨_,_,_,_,_,4,Z,Z,.inr ⟨4,[_,_,_,_],zat,Z,Z⟩⟩,Z,Z,Zt⟩ Z Z ⟨Z,Z,Z,Z,Z,Z,Zt⟩ ?_
 exact ⟨Z,Z⟩
 refine xpF Z (xmf Z (xf 2 zaX Z (xli 3 zad Z Z (xmp Z (xN0 Z (xf 0 zaF Z (xf 0 zaJ Z (xli 0 zad Z Z ?_))))))))
 refine TL.geq Z Z Z Z (fun q5=>?_) (fun q5=>?_)
 refine xpH Z (TL.done (TQ.then (TC.condT Z (TC.seq (TC.nilA 17 (A:=ownA zav 3 34 (.slice none 0 0) ((#[]:Array Acc))) (.inl ⟨Z,Z⟩) (TC.nilA 18 (A:=rowS (.slice none 0 0) #[]) za2 (TC.nilA 19 (A:=rowS (.slice none 0 0) #[]) za2 (TC.region ?_))))))))
 refine TL.bld [.slice none 0 0,.int .i64 0,.bool false,.slice none 0 0] [] [_,_,_,_] zb1 zeV Zt ⟨Z,Z⟩ Z Z (TL.stW 4 4 [_,_,_,_] Z Z Z Z Z Z zat Z Z Zt (TL.asg (.slice none 0 0) Z Z Z (xaf Z (dRR ?_))))
 refine FQ.retG (rs:=[.cell 4 50,.tmp 5,.tmp 6]) [(.agg _),(.slice none 0 0),(.bool false)] (Bs:=[_,_,_,_,_,_]) [0,1,2,17,18,19] Z ⟨⟨_,_,_,_,_,4,Z,Z,.inr ⟨4,[_,_,_,_],zat,Z,Z⟩⟩,Z,Z,Zt⟩ Z Z ⟨Z,Z,Z,Z,Z,Z,Zt⟩ ?_
 exact ⟨Z,Z⟩
 refine xpF Z (TL.done (TQ.then (TC.condF Z (TC.skip (TQ.then (TC.seq ?_))))))
 exact absurd (by omega:False) id
set_option maxHeartbeats 1000000 in
theorem zvp {l:Lay} (hl:l.Ok) {pb ab mb:Nat} {tg:Int} {av:Value} {σ:Array UInt64} {d:Array EdR} {o:Op3} (hd:d.size<=100) (hsl:∀ j,j<d.size->0<=d[j]!.slot/\d[j]!.slot<l.S) (hv:¬(o.u=o.v\/o.u<0\/l.V<=o.u\/o.v<0\/l.V<=o.v)) (hz:¬(o.kind=2/\0<=atN d (min o.u o.v) (max o.u o.v) d.size)) (hz1:o.kind=1->atN d (min o.u o.v) (max o.u o.v) d.size<0->∀ s:Nat,s<l.S->∃ j,j<d.size/\d[j]!.slot=(s:Int)):FnD Tryz.prog 54 [.pointer (some ⟨pb,0,none⟩),.agg #[.int .i64 o.kind,.int .i64 o.u,.int .i64 o.v]] [pt pb (.cells #[.int .i64 l.V,.int .i64 l.S,.int .i64 l.T,.pointer (some ⟨ab,0,none⟩),.int .i64 (tg),av] 57),zal ab mb 139 29 (σ),ownA encE 5 80 av d] (.tuple #[.agg #[.slice none 0 0,.int .i64 0,.bool false,.slice none 0 0],.slice none 0 0,.bool false]) [pt pb (.cells #[.int .i64 l.V,.int .i64 l.S,.int .i64 l.T,.pointer (some ⟨ab,0,none⟩),.int .i64 (tg),av] 57),zal ab mb 139 29 (σ),ownA encE 5 80 av d,ownA zav 3 34 (.slice none 0 0) ((#[]:Array Acc)),rowS (.slice none 0 0) #[],rowS (.slice none 0 0) #[]]:=by
 have hb:=zdP hl
 refine Fn.enter (Tryz.func54) Z Z (fun w0 R=>?_)
 refine sA (xB 3 Z (fun bk3=>(TL.alloc 4 (cs:=#[.slice none 0 0,.int .i64 0,.bool false,.slice none 0 0]) zb1 Z Z Z (fun _=>Zt) (fun bk4=>(TL.asg (.slice none 0 0) Z Z Z (xaf Z (dS (TC.seq (TC.draw (od [1,3,5,7,9,11,13,15,17,19,21,23,25,27,29,31,33,35,37,39,41,43,45,47,49,51,53,55,57,59,61,63,65,67,69]) [0,3] fc_m (by kernel_rfl) (xf 1 zaY Z ?_))))))))))
 refine xli 3 zad Z Z (xf 2 zaX Z (xli 3 zad Z Z (TL.eqlF Z Z (by omega) Z Z (xmf Z (xf 1 zaY Z (xli 3 zad Z Z (TL.lssF Z Z (by omega) Z Z (xpF Z ?_))))))))
 refine xmf Z (xf 1 zaY Z (xli 3 zad Z Z (xmp Z (xN0 Z (xf 0 zaF Z (xf 0 zaJ Z (xli 0 zad Z Z (TL.geqF Z Z (by omega) Z Z ?_))))))))
 refine xpF Z (xmf Z (xf 2 zaX Z (xli 3 zad Z Z (TL.lssF Z Z (by omega) Z Z (xpF Z (xmf Z (xf 2 zaX Z (xli 3 zad Z Z ?_))))))))
 refine xmp Z (xN0 Z (xf 0 zaF Z (xf 0 zaJ Z (xli 0 zad Z Z (TL.geqF Z Z (by omega) Z Z (xpF Z (TL.done (TQ.then ?_))))))))
 refine TC.condF Z (TC.skip (TQ.then (TC.seq (TC.draw (od [1,3,5,7,9,11,13,15,17,19,21,23]) [3] fc_m (by kernel_rfl) (xf 1 zaY Z (xli 3 zad Z Z (xf 2 zaX Z (xli 3 zad Z Z ?_))))))))
 refine TL.min2 Z Z Z Z (xf 1 zaY Z (xli 3 zad Z Z (xf 2 zaX Z (xli 3 zad Z Z (TL.max2 Z Z Z Z (xai Z (xai Z (dS ?_))))))))
 refine TC.draw (od [1,3,5,7,9,13,10,15]) [0] fc_m (by kernel_rfl) (xmp Z (xN0 Z (xf 0 zaF Z (xf 1 zbC Z (xli 0 zad Z Z (xai Z (TL.mkO 5 (enc:=encB) (N:=l.S) (false) Z Z zhT zys Z (by decide) (by omega) Z Z (fun bk5=>⟨(kL1 Z Zt),?_⟩))))))))
 refine xas Z (dS (TC.seq (TC.ownW 2 Z (fun a9 g9 c9 hv9 hc9 ha9=>?_))))
 cases hv9
 refine TC.region (xmp Z (xN0 Z (xf 5 zcG Z (xlv 0 zho Z Z (xz zbE Z (xmi Z (dK (TC.loopK (X:=Nat×Array Bool) [0,3,4,5,6,7,8,10,74,75] [0,1,2,3,4] (fun ⟨k,D⟩=>[(76,.int .i64 ((k:Nat):Int)),(9,.int .i64 (atN d (min o.u o.v) (max o.u o.v) k))]) (fun ⟨k,D⟩=>[(5,ownA encB 1 4 (.slice (some ⟨bk5,0,none⟩) l.S l.S) D)]) (fun ⟨k,D⟩=>(k<=d.size/\D.size=l.S)/\UsE d k D) (fun ⟨k,D⟩=>d.size - k) ((0,Array.replicate l.S false)) ⟨⟨Nat.zero_le _,by simp⟩,UsE.start⟩ ⟨Z,Z,Zt⟩ ⟨Z,Zt⟩ (fun y hI=>?_)))))))))
 obtain ⟨k,D⟩:=y
 obtain ⟨⟨hk,hDz⟩,hU⟩:=hI
 replace hk:k<=d.size:=hk
 replace hDz:D.size=l.S:=hDz
 replace hU:UsE d k D:=hU
 refine TC.sub (env':=[(76,_),(9,_),(0,_),(3,_),(4,_),(5,_),(6,_),(7,_),(8,_),(10,_),(74,_),(75,_)]) (L':=[(5,_),(0,_),(1,_),(2,_),(3,_),(4,_)]) ⟨Z,Z,Z,Z,Z,Z,Z,Z,Z,Z,Z,Z,Zt⟩ ⟨Z,Z,Z,Z,Z,Z,Zt⟩ (sA (TL.lss Z Z Z Z (fun q1=>?_) (fun q1=>?_)))
 refine dS (TC.condT Z (TC.skip (TQ.then (TC.seq (TC.block (sA (xmi Z (TL.iaO Z ha9 Z zbE (by omega) Z Z ?_))))))))
 refine TL.ldRx 2 [_,_,_,_,_] Z Z (zaP ha9) (by omega) Z zgi Z Z (TL.alloc 6 (cs:=#[.int .i64 0,.int .i64 0,.int .i64 0,.int .i64 0,.bool false]) zm5 Z Z Z (fun _=>Zt) (fun bk6=>(xai Z (TL.stW 6 5 [_,_,_,_,_] Z Z Z Z Z Z zgi Z Z Zt (dS ?_)))))
 obtain ⟨s,hs⟩:∃ s:Nat,d[k]!.slot=(s:Int):=⟨d[k]!.slot.toNat,by have:=hsl k (by omega); omega⟩
 have hsz:=hsl k (by omega)
 rw [hs]
 refine TC.region (xms Z (xf 0 zgh Z (xli 6 zad Z Z (TL.iaO Z (fun _=>Z) Z zcF (by omega) Z Z (TL.stOF 5 (o:=0) (i:=s) (cur:=D[s]!) (u:=true) (by omega) Z Z Z Z (by omega) (Z) ⟨Z,Z⟩ Z zd3 Z Z Zt (dA (xf 1 zhV Z (xli 6 zad Z Z ?_))))))))
 refine xmi Z (TL.eql Z Z Z Z (fun q2=>?_) (fun q2=>?_))
 refine xmt Z (xf 2 zhU Z (xli 6 zad Z Z (xmi Z (TL.eql Z Z Z Z (fun q3=>?_) (fun q3=>?_)))))
 refine xpT Z (TL.done (TQ.then (TC.condT Z (TC.region (xmi Z (xai Z (dI (TL.add (((k+1:Nat):Int)) Z Z (wrN (by omega)) Z Z ?_))))))))
 refine xmi Z (TL.done (TQ.roundK ((k+1,_)) ⟨⟨⟨(show k+1<=d.size by omega),(show (D.setIfInBounds _ _).size=l.S by simp; omega)⟩,hU.step hs⟩,(show d.size - (k+1)<d.size - k by omega)⟩ ⟨Z,congrArg (fun z=>some (Value.int .i64 z)) (zoB (by assumption) (by assumption)),Zt⟩ ⟨Z,Zt⟩ (kE8 Z Z Z Z Z Z Z Z (kE2 Z Z Zt)) (kL5 Z Z Z Z Z Zt)))
 refine xpG Z (TL.done (TQ.then (TC.condF Z (TC.skip (TQ.inBlock (TQ.then (TC.region (TL.add (((k+1:Nat):Int)) Z Z (wrN (by omega)) Z Z ?_))))))))
 refine xmi Z (TL.done (TQ.roundK ((k+1,_)) ⟨⟨⟨(show k+1<=d.size by omega),(show (D.setIfInBounds _ _).size=l.S by simp; omega)⟩,hU.step hs⟩,(show d.size - (k+1)<d.size - k by omega)⟩ ⟨Z,congrArg (fun z=>some (Value.int .i64 z)) (zut (by assumption)),Zt⟩ ⟨Z,Zt⟩ (kE8 Z Z Z Z Z Z Z Z (kE2 Z Z Zt)) (kL5 Z Z Z Z Z Zt)))
 refine xmf Z (xo Z (xo Z (xo Z (xo Z (xpF Z (TL.done (TQ.then (TC.condF Z ?_))))))))
 refine TC.skip (TQ.inBlock (TQ.then (TC.region (TL.add (((k+1:Nat):Int)) Z Z (wrN (by omega)) Z Z (xmi Z (TL.done (TQ.roundK ((k+1,_)) ⟨⟨⟨(show k+1<=d.size by omega),(show (D.setIfInBounds _ _).size=l.S by simp; omega)⟩,hU.step hs⟩,(show d.size - (k+1)<d.size - k by omega)⟩ ⟨Z,congrArg (fun z=>some (Value.int .i64 z)) (zuu (by assumption)),Zt⟩ ⟨Z,Zt⟩ (kE8 Z Z Z Z Z Z Z Z (kE2 Z Z Zt)) (kL5 Z Z Z Z Z Zt))))))))
 refine dS (TC.condF Z (TC.exit (TQ.thenExit (TQ.thenExit (TQ.blockHere (TQ.then (TC.seq ?_)))))))
 obtain rfl:k=d.size:=by omega
 refine TC.region (xmp Z (xN0 Z (xf 4 zeZ Z (xli 0 zad Z Z (TL.bld [.int .i64 0,.int .i64 0] [(.int _ _),(.int _ _)] [_,_] zfU zjB ⟨Z,Z,Zt⟩ ⟨Z,Z⟩ Z Z (TL.alloc 7 (cs:=#[.int .i64 0,.int .i64 0]) zfU Z Z Z (fun _=>Zt) (fun bk7=>(TL.stW 7 2 [_,_] Z Z Z Z Z Z zba Z Z Zt (dS ?_)))))))))
 refine TC.block (sA (xf 0 zd7 Z (xli 3 zad Z Z (TL.eql Z Z Z Z (fun q2=>?_) (fun q2=>?_)))))
 refine xmt Z (xmi Z (TL.geq Z Z Z Z (fun q3=>?_) (fun q3=>?_)))
 refine xpT Z (xat Z (TL.done (TQ.then (TC.condT Z (TC.seq ?_)))))
 exact absurd (by exact hz ⟨by assumption,by assumption⟩:False) id
 refine xpG Z (xaf Z (TL.done (TQ.then (TC.condF Z (sA (xf 0 zd7 Z (xli 3 zad Z Z (TL.eql Z Z Z Z (fun q4=>?_) (fun q4=>?_)))))))))
 refine xmt Z (xmi Z (TL.lss Z Z Z Z (fun q5=>?_) (fun q5=>?_)))
 refine xpT Z (xat Z (dT Z (xms Z (xz zcF Z (xmi Z (dK (TC.loopK (X:=Nat) [0,3,4,7,8,13,162,163] [0,1,2,3,4,5,7] (fun s=>[(164,.int .i64 ((s:Nat):Int))]) (fun s=>[]) (fun s=>s<=l.S) (fun s=>l.S - s) (0) (Nat.zero_le _) ⟨Z,Zt⟩ Zt (fun s hI=>(TC.sub (env':=[(164,_),(0,_),(3,_),(4,_),(7,_),(8,_),(13,_),(162,_),(163,_)]) (L':=[(0,_),(1,_),(2,_),(3,_),(4,_),(5,_),(7,_)]) ⟨Z,Z,Z,Z,Z,Z,Z,Z,Z,Zt⟩ ⟨Z,Z,Z,Z,Z,Z,Z,Zt⟩ ?_)))))))))
 refine sA (TL.lss Z Z Z Z (fun q6=>?_) (fun q6=>?_))
 refine dS (TC.condT Z (TC.skip (TQ.then (TC.seq (TC.block (sA (xmi Z (TL.iaO Z (fun _=>Z) Z zcF (by omega) Z Z ?_))))))))
 refine TL.ldRS 5 (.bool _) rfl rfl (zew (by omega)) (by omega) (rfl) zd3 rfl rfl (xai rfl (xab rfl (dA (xmb rfl (TL.cases rfl (fun q7=>?_) (fun q7=>?_))))))
 refine xnt Z (TL.done (TQ.then (TC.condF Z (TC.skip (TQ.inBlock (TQ.then (TC.region (TL.add (((s+1:Nat):Int)) Z Z (wrN (by omega)) Z Z ?_))))))))
 refine xmi Z (TL.done (TQ.roundK (s+1) ⟨by omega,by omega⟩ ⟨Z,Zt⟩ Zt (kE8 Z Z Z Z Z Z Z Z Zt) (kL7 Z Z Z Z Z Z Z Zt)))
 refine xnf Z (TL.done (TQ.then (TC.condT Z (TC.seq ?_))))
 exact absurd (by exact absurd ((hU _ (by omega)).2 (hz1 (by assumption) (by assumption) s (by omega))) (by simp_all):False) id
 refine dS (TC.condF Z (TC.exit (TQ.thenExit (TQ.thenExit (TQ.blockHere (TQ.inBlock (TQ.then (TC.seq ?_))))))))
 refine TC.nilA 8 (A:=ownA zav 3 34 (.slice none 0 0) ((#[]:Array Acc))) (.inl ⟨Z,Z⟩) (TC.nilA 9 (A:=rowS (.slice none 0 0) #[]) za2 (TC.nilA 10 (A:=rowS (.slice none 0 0) #[]) za2 (TC.region (TL.bld [.slice none 0 0,.int .i64 0,.bool false,.slice none 0 0] [] [_,_,_,_] zb1 zeV Zt ⟨Z,Z⟩ Z Z (TL.stW 4 4 [_,_,_,_] Z Z Z Z Z Z zat Z Z Zt (TL.asg (.slice none 0 0) Z Z Z (xaf Z (dR ?_))))))))
 refine FQ.retG (rs:=[.cell 4 50,.tmp 5,.tmp 6]) [(.agg _),(.slice none 0 0),(.bool false)] (Bs:=[_,_,_,_,_,_]) [0,1,2,8,9,10] Z ⟨⟨_,_,_,_,_,4,Z,Z,.inr ⟨4,[_,_,_,_],zat,Z,Z⟩⟩,Z,Z,Zt⟩ Z Z ⟨Z,Z,Z,Z,Z,Z,Zt⟩ ?_
 exact ⟨Z,Z⟩
 refine xpG Z (xaf Z (TL.done (TQ.then (TC.condF Z (TC.skip (TQ.inBlock (TQ.then (TC.seq ?_))))))))
 refine TC.nilA 11 (A:=ownA zav 3 34 (.slice none 0 0) ((#[]:Array Acc))) (.inl ⟨Z,Z⟩) (TC.nilA 12 (A:=rowS (.slice none 0 0) #[]) za2 (TC.nilA 13 (A:=rowS (.slice none 0 0) #[]) za2 (TC.region (TL.bld [.slice none 0 0,.int .i64 0,.bool false,.slice none 0 0] [] [_,_,_,_] zb1 zeV Zt ⟨Z,Z⟩ Z Z (TL.stW 4 4 [_,_,_,_] Z Z Z Z Z Z zat Z Z Zt (TL.asg (.slice none 0 0) Z Z Z (xaf Z (dR ?_))))))))
 refine FQ.retG (rs:=[.cell 4 50,.tmp 5,.tmp 6]) [(.agg _),(.slice none 0 0),(.bool false)] (Bs:=[_,_,_,_,_,_]) [0,1,2,11,12,13] Z ⟨⟨_,_,_,_,_,4,Z,Z,.inr ⟨4,[_,_,_,_],zat,Z,Z⟩⟩,Z,Z,Zt⟩ Z Z ⟨Z,Z,Z,Z,Z,Z,Zt⟩ ?_
 exact ⟨Z,Z⟩
 refine xmf Z (xo Z (xo Z (xpF Z (xaf Z (TL.done (TQ.then (TC.condF Z (TC.skip ?_))))))))
 refine TQ.inBlock (TQ.then (TC.seq (TC.nilA 14 (A:=ownA zav 3 34 (.slice none 0 0) ((#[]:Array Acc))) (.inl ⟨Z,Z⟩) (TC.nilA 15 (A:=rowS (.slice none 0 0) #[]) za2 (TC.nilA 16 (A:=rowS (.slice none 0 0) #[]) za2 (TC.region (TL.bld [.slice none 0 0,.int .i64 0,.bool false,.slice none 0 0] [] [_,_,_,_] zb1 zeV Zt ⟨Z,Z⟩ Z Z (TL.stW 4 4 [_,_,_,_] Z Z Z Z Z Z zat Z Z Zt ?_))))))))
 refine TL.asg (.slice none 0 0) Z Z Z (xaf Z (dR ?_))
 refine FQ.retG (rs:=[.cell 4 50,.tmp 5,.tmp 6]) [(.agg _),(.slice none 0 0),(.bool false)] (Bs:=[_,_,_,_,_,_]) [0,1,2,14,15,16] Z ⟨⟨_,_,_,_,_,4,Z,Z,.inr ⟨4,[_,_,_,_],zat,Z,Z⟩⟩,Z,Z,Zt⟩ Z Z ⟨Z,Z,Z,Z,Z,Z,Zt⟩ ?_
 exact ⟨Z,Z⟩
 refine xmf Z (xo Z (xo Z (xpF Z (xaf Z (TL.done (TQ.then (TC.condF Z (sA ?_))))))))
 refine xf 0 zd7 Z (xli 3 zad Z Z (TL.eql Z Z Z Z (fun q3=>?_) (fun q3=>?_)))
 refine xmt Z (xmi Z (TL.lss Z Z Z Z (fun q4=>?_) (fun q4=>?_)))
 refine xpT Z (xat Z (dT Z (xms Z (xz zcF Z (xmi Z (dK (TC.loopK (X:=Nat) [0,3,4,7,8,13,162,163] [0,1,2,3,4,5,7] (fun s=>[(164,.int .i64 ((s:Nat):Int))]) (fun s=>[]) (fun s=>s<=l.S) (fun s=>l.S - s) (0) (Nat.zero_le _) ⟨Z,Zt⟩ Zt (fun s hI=>(TC.sub (env':=[(164,_),(0,_),(3,_),(4,_),(7,_),(8,_),(13,_),(162,_),(163,_)]) (L':=[(0,_),(1,_),(2,_),(3,_),(4,_),(5,_),(7,_)]) ⟨Z,Z,Z,Z,Z,Z,Z,Z,Z,Zt⟩ ⟨Z,Z,Z,Z,Z,Z,Z,Zt⟩ ?_)))))))))
 refine sA (TL.lss Z Z Z Z (fun q5=>?_) (fun q5=>?_))
 refine dS (TC.condT Z (TC.skip (TQ.then (TC.seq (TC.block (sA (xmi Z (TL.iaO Z (fun _=>Z) Z zcF (by omega) Z Z ?_))))))))
 refine TL.ldRS 5 (.bool _) rfl rfl (zew (by omega)) (by omega) (rfl) zd3 rfl rfl (xai rfl (xab rfl (dA (xmb rfl (TL.cases rfl (fun q6=>?_) (fun q6=>?_))))))
 refine xnt Z (TL.done (TQ.then (TC.condF Z (TC.skip (TQ.inBlock (TQ.then (TC.region (TL.add (((s+1:Nat):Int)) Z Z (wrN (by omega)) Z Z ?_))))))))
 refine xmi Z (TL.done (TQ.roundK (s+1) ⟨by omega,by omega⟩ ⟨Z,Zt⟩ Zt (kE8 Z Z Z Z Z Z Z Z Zt) (kL7 Z Z Z Z Z Z Z Zt)))
 refine xnf Z (TL.done (TQ.then (TC.condT Z (TC.seq ?_))))
 exact absurd (by exact absurd ((hU _ (by omega)).2 (hz1 (by assumption) (by assumption) s (by omega))) (by simp_all):False) id
 refine dS (TC.condF Z (TC.exit (TQ.thenExit (TQ.thenExit (TQ.blockHere (TQ.inBlock (TQ.then (TC.seq ?_))))))))
 refine TC.nilA 17 (A:=ownA zav 3 34 (.slice none 0 0) ((#[]:Array Acc))) (.inl ⟨Z,Z⟩) (TC.nilA 18 (A:=rowS (.slice none 0 0) #[]) za2 (TC.nilA 19 (A:=rowS (.slice none 0 0) #[]) za2 (TC.region (TL.bld [.slice none 0 0,.int .i64 0,.bool false,.slice none 0 0] [] [_,_,_,_] zb1 zeV Zt ⟨Z,Z⟩ Z Z (TL.stW 4 4 [_,_,_,_] Z Z Z Z Z Z zat Z Z Zt (TL.asg (.slice none 0 0) Z Z Z (xaf Z (dR ?_))))))))
 refine FQ.retG (rs:=[.cell 4 50,.tmp 5,.tmp 6]) [(.agg _),(.slice none 0 0),(.bool false)] (Bs:=[_,_,_,_,_,_]) [0,1,2,17,18,19] Z ⟨⟨_,_,_,_,_,4,Z,Z,.inr ⟨4,[_,_,_,_],zat,Z,Z⟩⟩,Z,Z,Zt⟩ Z Z ⟨Z,Z,Z,Z,Z,Z,Zt⟩ ?_
 exact ⟨Z,Z⟩
 refine xpG Z (xaf Z (TL.done (TQ.then (TC.condF Z (TC.skip (TQ.inBlock (TQ.then (TC.seq ?_))))))))
 refine TC.nilA 20 (A:=ownA zav 3 34 (.slice none 0 0) ((#[]:Array Acc))) (.inl ⟨Z,Z⟩) (TC.nilA 21 (A:=rowS (.slice none 0 0) #[]) za2 (TC.nilA 22 (A:=rowS (.slice none 0 0) #[]) za2 (TC.region (TL.bld [.slice none 0 0,.int .i64 0,.bool false,.slice none 0 0] [] [_,_,_,_] zb1 zeV Zt ⟨Z,Z⟩ Z Z (TL.stW 4 4 [_,_,_,_] Z Z Z Z Z Z zat Z Z Zt (TL.asg (.slice none 0 0) Z Z Z (xaf Z (dR ?_))))))))
 refine FQ.retG (rs:=[.cell 4 50,.tmp 5,.tmp 6]) [(.agg _),(.slice none 0 0),(.bool false)] (Bs:=[_,_,_,_,_,_]) [0,1,2,20,21,22] Z ⟨⟨_,_,_,_,_,4,Z,Z,.inr ⟨4,[_,_,_,_],zat,Z,Z⟩⟩,Z,Z,Zt⟩ Z Z ⟨Z,Z,Z,Z,Z,Z,Zt⟩ ?_
 exact ⟨Z,Z⟩
 refine xmf Z (xo Z (xo Z (xpF Z (xaf Z (TL.done (TQ.then (TC.condF Z (TC.skip ?_))))))))
 refine TQ.inBlock (TQ.then (TC.seq (TC.nilA 23 (A:=ownA zav 3 34 (.slice none 0 0) ((#[]:Array Acc))) (.inl ⟨Z,Z⟩) (TC.nilA 24 (A:=rowS (.slice none 0 0) #[]) za2 (TC.nilA 25 (A:=rowS (.slice none 0 0) #[]) za2 (TC.region (TL.bld [.slice none 0 0,.int .i64 0,.bool false,.slice none 0 0] [] [_,_,_,_] zb1 zeV Zt ⟨Z,Z⟩ Z Z (TL.stW 4 4 [_,_,_,_] Z Z Z Z Z Z zat Z Z Zt ?_))))))))
 refine TL.asg (.slice none 0 0) Z Z Z (xaf Z (dR ?_))
 refine FQ.retG (rs:=[.cell 4 50,.tmp 5,.tmp 6]) [(.agg _),(.slice none 0 0),(.bool false)] (Bs:=[_,_,_,_,_,_]) [0,1,2,23,24,25] Z ⟨⟨_,_,_,_,_,4,Z,Z,.inr ⟨4,[_,_,_,_],zat,Z,Z⟩⟩,Z,Z,Zt⟩ Z Z ⟨Z,Z,Z,Z,Z,Z,Zt⟩ ?_
 exact ⟨Z,Z⟩
set_option maxHeartbeats 1000000 in
theorem zvr {l:Lay} (hl:l.Ok) {pb ab mb:Nat} {tg:Int} {av:Value} {σ:Array UInt64} {d:Array EdR} {o:Op3} (hd:d.size<=100) (hsl:∀ j,j<d.size->0<=d[j]!.slot/\d[j]!.slot<l.S) (hv:¬(o.u=o.v\/o.u<0\/l.V<=o.u\/o.v<0\/l.V<=o.v)) {t:M} {D1:Array Int} (ht:t=zar l σ (min o.u o.v) (max o.u o.v)) (hD:D1=zbM l σ (min o.u o.v) (max o.u o.v)) (htz:0<t.size/\t.size<=20000) (hk1:o.kind=1) (hat:atN d (min o.u o.v) (max o.u o.v) d.size<0) {s:Nat} (hs9:(s:Int)<l.S) (hno:∀ j,j<d.size->d[j]!.slot≠(s:Int)) (hlt:∀ q:Nat,q<s->∃ j,j<d.size/\d[j]!.slot=(q:Int)) {b:Bool} {τ:Tr} {P:PlanS} (hg:zbf l ⟨1,tg⟩ 561 (⟨t,#[]⟩:Tr) s o.u o.v=some (b,τ)) (hP:planF l ⟨1,tg⟩ 561 D1 b o.u o.v τ=some P) (hne:0<τ.row.size):Go.Eng.Fn Tryz.prog 54 [.pointer (some ⟨pb,0,none⟩),.agg #[.int .i64 o.kind,.int .i64 o.u,.int .i64 o.v]] [pt pb (.cells #[.int .i64 l.V,.int .i64 l.S,.int .i64 l.T,.pointer (some ⟨ab,0,none⟩),.int .i64 (tg),av] 57),zal ab mb 139 29 (σ),ownA encE 5 80 av d] (fun x Bs=>∃ xa xc ya yc va v2,x=.tuple #[.agg #[.slice xa (P).work.size xc,.int .i64 (P).point,.bool (P).tree,.slice ya (P).roots.size yc],va,.bool true]/\Bs=[pt pb (.cells #[.int .i64 l.V,.int .i64 l.S,.int .i64 l.T,.pointer (some ⟨ab,0,none⟩),.int .i64 (tg),v2] 57),zal ab mb 139 29 (t),ownA encE 5 80 v2 (d++#[⟨(s:Int),min o.u o.v,max o.u o.v,0,false⟩]),ownA zav 3 34 (.slice xa (P).work.size xc) (P.work),rowS (.slice ya (P).roots.size yc) P.roots,rowS va D1]):=by
 have hb:=zdP hl
 have hDs:D1.size<=2:=by rw [hD]; exact zdW
 refine Fn.enter (Tryz.func54) Z Z (fun w0 R=>?_)
 refine sA (xB 3 Z (fun bk3=>(TL.alloc 4 (cs:=#[.slice none 0 0,.int .i64 0,.bool false,.slice none 0 0]) zb1 Z Z Z (fun _=>Zt) (fun bk4=>(TL.asg (.slice none 0 0) Z Z Z (xaf Z (dS (TC.seq (TC.draw (od [1,3,5,7,9,11,13,15,17,19,21,23,25,27,29,31,33,35,37,39,41,43,45,47,49,51,53,55,57,59,61,63,65,67,69]) [0,3] fc_m (by kernel_rfl) (xf 1 zaY Z ?_))))))))))
 refine xli 3 zad Z Z (xf 2 zaX Z (xli 3 zad Z Z (TL.eqlF Z Z (by omega) Z Z (xmf Z (xf 1 zaY Z (xli 3 zad Z Z (TL.lssF Z Z (by omega) Z Z (xpF Z ?_))))))))
 refine xmf Z (xf 1 zaY Z (xli 3 zad Z Z (xmp Z (xN0 Z (xf 0 zaF Z (xf 0 zaJ Z (xli 0 zad Z Z (TL.geqF Z Z (by omega) Z Z ?_))))))))
 refine xpF Z (xmf Z (xf 2 zaX Z (xli 3 zad Z Z (TL.lssF Z Z (by omega) Z Z (xpF Z (xmf Z (xf 2 zaX Z (xli 3 zad Z Z ?_))))))))
 refine xmp Z (xN0 Z (xf 0 zaF Z (xf 0 zaJ Z (xli 0 zad Z Z (TL.geqF Z Z (by omega) Z Z (xpF Z (TL.done (TQ.then ?_))))))))
 refine TC.condF Z (TC.skip (TQ.then (TC.seq (TC.draw (od [1,3,5,7,9,11,13,15,17,19,21,23]) [3] fc_m (by kernel_rfl) (xf 1 zaY Z (xli 3 zad Z Z (xf 2 zaX Z (xli 3 zad Z Z ?_))))))))
 refine TL.min2 Z Z Z Z (xf 1 zaY Z (xli 3 zad Z Z (xf 2 zaX Z (xli 3 zad Z Z (TL.max2 Z Z Z Z (xai Z (xai Z (dS ?_))))))))
 refine TC.draw (od [1,3,5,7,9,13,10,15]) [0] fc_m (by kernel_rfl) (xmp Z (xN0 Z (xf 0 zaF Z (xf 1 zbC Z (xli 0 zad Z Z (xai Z (TL.mkO 5 (enc:=encB) (N:=l.S) (false) Z Z zhT zys Z (by decide) (by omega) Z Z (fun bk5=>⟨(kL1 Z Zt),?_⟩))))))))
 refine xas Z (dS (TC.seq (TC.ownW 2 Z (fun a9 g9 c9 hv9 hc9 ha9=>?_))))
 cases hv9
 refine TC.region (xmp Z (xN0 Z (xf 5 zcG Z (xlv 0 zho Z Z (xz zbE Z (xmi Z (dK (TC.loopK (X:=Nat×Array Bool) [0,3,4,5,6,7,8,10,74,75] [0,1,2,3,4] (fun ⟨k,D⟩=>[(76,.int .i64 ((k:Nat):Int)),(9,.int .i64 (atN d (min o.u o.v) (max o.u o.v) k))]) (fun ⟨k,D⟩=>[(5,ownA encB 1 4 (.slice (some ⟨bk5,0,none⟩) l.S l.S) D)]) (fun ⟨k,D⟩=>(k<=d.size/\D.size=l.S)/\UsE d k D) (fun ⟨k,D⟩=>d.size - k) ((0,Array.replicate l.S false)) ⟨⟨Nat.zero_le _,by simp⟩,UsE.start⟩ ⟨Z,Z,Zt⟩ ⟨Z,Zt⟩ (fun y hI=>?_)))))))))
 obtain ⟨k,D⟩:=y
 obtain ⟨⟨hk,hDz⟩,hU⟩:=hI
 replace hk:k<=d.size:=hk
 replace hDz:D.size=l.S:=hDz
 replace hU:UsE d k D:=hU
 refine TC.sub (env':=[(76,_),(9,_),(0,_),(3,_),(4,_),(5,_),(6,_),(7,_),(8,_),(10,_),(74,_),(75,_)]) (L':=[(5,_),(0,_),(1,_),(2,_),(3,_),(4,_)]) ⟨Z,Z,Z,Z,Z,Z,Z,Z,Z,Z,Z,Z,Zt⟩ ⟨Z,Z,Z,Z,Z,Z,Zt⟩ (sA (TL.lss Z Z Z Z (fun q1=>?_) (fun q1=>?_)))
 refine dS (TC.condT Z (TC.skip (TQ.then (TC.seq (TC.block (sA (xmi Z (TL.iaO Z ha9 Z zbE (by omega) Z Z ?_))))))))
 refine TL.ldRx 2 [_,_,_,_,_] Z Z (zaP ha9) (by omega) Z zgi Z Z (TL.alloc 6 (cs:=#[.int .i64 0,.int .i64 0,.int .i64 0,.int .i64 0,.bool false]) zm5 Z Z Z (fun _=>Zt) (fun bk6=>(xai Z (TL.stW 6 5 [_,_,_,_,_] Z Z Z Z Z Z zgi Z Z Zt (dS ?_)))))
 obtain ⟨s2,hs⟩:∃ s2:Nat,d[k]!.slot=(s2:Int):=⟨d[k]!.slot.toNat,by have:=hsl k (by omega); omega⟩
 have hsz:=hsl k (by omega)
 rw [hs]
 refine TC.region (xms Z (xf 0 zgh Z (xli 6 zad Z Z (TL.iaO Z (fun _=>Z) Z zcF (by omega) Z Z (TL.stOF 5 (o:=0) (i:=s2) (cur:=D[s2]!) (u:=true) (by omega) Z Z Z Z (by omega) (Z) ⟨Z,Z⟩ Z zd3 Z Z Zt (dA (xf 1 zhV Z (xli 6 zad Z Z ?_))))))))
 refine xmi Z (TL.eql Z Z Z Z (fun q2=>?_) (fun q2=>?_))
 refine xmt Z (xf 2 zhU Z (xli 6 zad Z Z (xmi Z (TL.eql Z Z Z Z (fun q3=>?_) (fun q3=>?_)))))
 refine xpT Z (TL.done (TQ.then (TC.condT Z (TC.region (xmi Z (xai Z (dI (TL.add (((k+1:Nat):Int)) Z Z (wrN (by omega)) Z Z ?_))))))))
 refine xmi Z (TL.done (TQ.roundK ((k+1,_)) ⟨⟨⟨(show k+1<=d.size by omega),(show (D.setIfInBounds _ _).size=l.S by simp; omega)⟩,hU.step hs⟩,(show d.size - (k+1)<d.size - k by omega)⟩ ⟨Z,congrArg (fun z=>some (Value.int .i64 z)) (zoB (by assumption) (by assumption)),Zt⟩ ⟨Z,Zt⟩ (kE8 Z Z Z Z Z Z Z Z (kE2 Z Z Zt)) (kL5 Z Z Z Z Z Zt)))
 refine xpG Z (TL.done (TQ.then (TC.condF Z (TC.skip (TQ.inBlock (TQ.then (TC.region (TL.add (((k+1:Nat):Int)) Z Z (wrN (by omega)) Z Z ?_))))))))
 refine xmi Z (TL.done (TQ.roundK ((k+1,_)) ⟨⟨⟨(show k+1<=d.size by omega),(show (D.setIfInBounds _ _).size=l.S by simp; omega)⟩,hU.step hs⟩,(show d.size - (k+1)<d.size - k by omega)⟩ ⟨Z,congrArg (fun z=>some (Value.int .i64 z)) (zut (by assumption)),Zt⟩ ⟨Z,Zt⟩ (kE8 Z Z Z Z Z Z Z Z (kE2 Z Z Zt)) (kL5 Z Z Z Z Z Zt)))
 refine xmf Z (xo Z (xo Z (xo Z (xo Z (xpF Z (TL.done (TQ.then (TC.condF Z ?_))))))))
 refine TC.skip (TQ.inBlock (TQ.then (TC.region (TL.add (((k+1:Nat):Int)) Z Z (wrN (by omega)) Z Z (xmi Z (TL.done (TQ.roundK ((k+1,_)) ⟨⟨⟨(show k+1<=d.size by omega),(show (D.setIfInBounds _ _).size=l.S by simp; omega)⟩,hU.step hs⟩,(show d.size - (k+1)<d.size - k by omega)⟩ ⟨Z,congrArg (fun z=>some (Value.int .i64 z)) (zuu (by assumption)),Zt⟩ ⟨Z,Zt⟩ (kE8 Z Z Z Z Z Z Z Z (kE2 Z Z Zt)) (kL5 Z Z Z Z Z Zt))))))))
 refine dS (TC.condF Z (TC.exit (TQ.thenExit (TQ.thenExit (TQ.blockHere (TQ.then (TC.seq ?_)))))))
 obtain rfl:k=d.size:=by omega
 refine TC.region (xmp Z (xN0 Z (xf 4 zeZ Z (xli 0 zad Z Z (TL.bld [.int .i64 0,.int .i64 0] [(.int _ _),(.int _ _)] [_,_] zfU zjB ⟨Z,Z,Zt⟩ ⟨Z,Z⟩ Z Z (TL.alloc 7 (cs:=#[.int .i64 0,.int .i64 0]) zfU Z Z Z (fun _=>Zt) (fun bk7=>(TL.stW 7 2 [_,_] Z Z Z Z Z Z zba Z Z Zt (dS ?_)))))))))
 refine TC.block (sA (xf 0 zd7 Z (xli 3 zad Z Z (TL.eqlF Z Z (by omega) Z Z (xmf Z (xo Z (xo Z (xpF Z ?_))))))))
 refine xaf Z (TL.done (TQ.then (TC.condF Z (sA (xf 0 zd7 Z (xli 3 zad Z Z (TL.eqlT Z Z (by omega) Z Z (xmt Z ?_))))))))
 refine xmi Z (TL.lssT Z Z (by omega) Z Z (xpT Z (xat Z (dT Z (xms Z (xz zcF Z (xmi Z (dK ?_))))))))
 refine TC.loopK (X:=Nat) [0,3,4,7,8,13,162,163] [0,1,2,3,4,5,7] (fun q=>[(164,.int .i64 ((q:Nat):Int))]) (fun q=>[]) (fun q=>q<=s) (fun q=>l.S - q) (0) (Nat.zero_le _) ⟨Z,Zt⟩ Zt (fun q hI=>(TC.sub (env':=[(164,_),(0,_),(3,_),(4,_),(7,_),(8,_),(13,_),(162,_),(163,_)]) (L':=[(0,_),(1,_),(2,_),(3,_),(4,_),(5,_),(7,_)]) ⟨Z,Z,Z,Z,Z,Z,Z,Z,Z,Zt⟩ ⟨Z,Z,Z,Z,Z,Z,Z,Zt⟩ (sA (TL.lss Z Z Z Z (fun q2=>?_) (fun q2=>?_)))))
 refine dS (TC.condT Z (TC.skip (TQ.then (TC.seq (TC.block (sA (xmi Z (TL.iaO Z (fun _=>Z) Z zcF (by omega) Z Z ?_))))))))
 refine TL.ldRS 5 (.bool _) rfl rfl (zew (by omega)) (by omega) (rfl) zd3 rfl rfl (xai rfl (xab rfl (dA (xmb rfl (TL.cases rfl (fun q3=>?_) (fun q3=>?_))))))
 refine xnt Z (TL.done (TQ.then (TC.condF Z (TC.skip (TQ.inBlock (TQ.then (TC.region (TL.add (((q+1:Nat):Int)) Z Z (wrN (by omega)) Z Z ?_))))))))
 refine xmi Z (TL.done (TQ.roundK (q+1) ⟨hU.more hDz (by omega) hI hno q3,by omega⟩ ⟨Z,Zt⟩ Zt (kE8 Z Z Z Z Z Z Z Z Zt) (kL7 Z Z Z Z Z Z Z Zt)))
 refine xnf Z (TL.done (TQ.then (TC.condT Z (TC.seq ?_))))
 obtain rfl:s=q:=(hU.first hDz (by omega) hI hlt q3).symm
 refine TC.region (xmp Z (xmp Z (xN0 Z (xf 5 zcG Z (xlv 0 zho Z Z (xmi Z (xmi Z (xmi Z ?_))))))))
 refine TL.bld [.int .i64 0,.int .i64 0,.int .i64 0,.int .i64 0,.bool false] [(.int _ _),(.int _ _),(.int _ _)] [_,_,_,_,_] zm5 zAv ⟨Z,Z,Z,Zt⟩ ⟨Z,Z⟩ Z Z (TL.bsN 8 [_] (encE ⟨(s:Int),min o.u o.v,max o.u o.v,0,false⟩) zbE zm5 ⟨Z,Zt⟩ Z (lit1 Z) Z Z (fun bk8=>⟨Zt,?_⟩))
 refine TL.appS 2 8 (d2:=#[⟨(s:Int),min o.u o.v,max o.u o.v,0,false⟩]) Z (Z) Z (fun _=>Z) Z Z (row1 Z) zl4 (by decide) zgO (by simp; omega) Z Z (fun v9=>⟨Zt,?_⟩)
 refine TL.ownW 2 Z (fun a6 g6 c6 hv6 _ _=>?_)
 cases hv6
 refine xN0 Z (xf 5 zcG Z (TL.st 0 #[_,_,_,_,_,_] _ Z Z Z Z Z Z zho Z Z Zt (dA (xmp Z (xmi Z (xmi Z (TL.call [0,1] [0,1,10] (zjq hl) ⟨Z,Z,Z,Zt⟩ ⟨Z,Z,Zt⟩ zta Z Z Z Z ?_)))))))
 rintro r9 Bs rfl
 refine ⟨Z,Zt,?_⟩
 rw [show zbq l (zaw (zaS l σ (min o.u o.v)) (zaS l σ (max o.u o.v))) [] 1 (zaw (zaS l σ (min o.u o.v)) (zaS l σ (max o.u o.v))).size σ=t from ht.symm]
 rw [show zaw (zaS l σ (min o.u o.v)) (zaS l σ (max o.u o.v))=D1 from hD.symm]
 refine TL.rowS 10 Z (fun a7 b7 o7 c7 hv7 hc7 ha7=>⟨Zt,?_⟩)
 cases hv7
 refine xas Z (dS (TC.draw (od [1,3,5,7,9,11,13,15,17,19,21,23,25,27,29,33,30,34,37,39]) [0,3,7] fc_m (by kernel_rfl) (xmp Z (xN0 Z (xf 3 zci Z (xlp 0 zdU Z Z (xmp Z (xN0 Z ?_))))))))
 refine xf 0 zaF Z (xL3 0 zab Z Z (xL2 7 zba Z Z (xms Z (xmi Z (xf 1 zaY Z (xli 3 zad Z Z (xf 2 zaX Z (xli 3 zad Z Z ?_))))))))
 refine xms Z (TL.openE 1 Z (fun n0=>⟨(kL3 Z Z Z Zt),?_⟩))
 refine TL.call [1,10] [1,10,11,12] (zhz (p:=⟨1,tg⟩) hl ha7 hDs Z zcw htz.1 htz.2 hg hP hne) ⟨Z,Z,Z,Z,Z,Z,Z,Zt⟩ ⟨Z,Z,Zt⟩ zs9 Z Z Z Z ?_
 rintro r9 Bs ⟨xa,xc,ya,yc,rfl,rfl⟩
 refine ⟨Z,(kL3 Z Z Z Zt),?_⟩
 refine TL.conseq 1 (B:=zal ab mb 139 29 (t)) Z (fun h hh=>zfw hh) (kL3 Z Z Z Zt) (TL.stW 4 4 [_,_,_,_] Z Z Z Z Z Z zat Z Z (kL3 Z Z Z Zt) (xas Z (xat Z (dR (TQ.blockRet (TQ.thenRet (TQ.thenRet (TQ.blockRet ?_))))))))
 refine TQ.blockRet (TQ.thenRet (TQ.conseq 10 (B:=rowS _ D1) Z (fun _ h=>⟨_,_,_,_,Z,hc7,ha7,h⟩) ?_))
 refine FQ.retG (rs:=[.cell 4 50,.tmp 5,.tmp 6]) [(.agg _),(.slice _ _ _),(.bool true)] (Bs:=[_,_,_,_,_,_]) [0,1,2,11,12,10] Z ⟨⟨_,_,_,_,_,4,Z,Z,.inr ⟨4,[_,_,_,_],zat,Z,Z⟩⟩,Z,Z,Zt⟩ Z Z ⟨Z,Z,Z,Z,Z,Z,Zt⟩ ?_
 exact ⟨_,_,_,_,_,_,Z,Z⟩
 refine dS (TC.condF Z (TC.exit (TQ.thenExit (TQ.thenExit (TQ.blockHere (TQ.inBlock (TQ.then (TC.seq ?_))))))))
 exact absurd (by omega:False) id
set_option maxHeartbeats 1000000 in
theorem zvs {l:Lay} (hl:l.Ok) {pb ab mb:Nat} {tg:Int} {av:Value} {σ:Array UInt64} {d:Array EdR} {o:Op3} (hd:d.size<=100) (hsl:∀ j,j<d.size->0<=d[j]!.slot/\d[j]!.slot<l.S) (hv:¬(o.u=o.v\/o.u<0\/l.V<=o.u\/o.v<0\/l.V<=o.v)) {t:M} {D1:Array Int} (ht:t=zar l σ (min o.u o.v) (max o.u o.v)) (hD:D1=zbM l σ (min o.u o.v) (max o.u o.v)) (htz:0<t.size/\t.size<=20000) (hk1:o.kind=2) {i:Nat} (hi:i<d.size) (hat:atN d (min o.u o.v) (max o.u o.v) d.size=(i:Int)) {q:Int} {b ok:Bool} {τ:Tr} {P:PlanS} (hg:zbk l ⟨1,tg⟩ 561 (⟨t,#[]⟩:Tr) d[i]!.slot=some ((b,q,ok),τ)) (hP:planF l ⟨1,tg⟩ 561 D1 b (eget l t d[i]!.slot).u (eget l t d[i]!.slot).v τ=some P) (hne:0<τ.row.size):Go.Eng.Fn Tryz.prog 54 [.pointer (some ⟨pb,0,none⟩),.agg #[.int .i64 o.kind,.int .i64 o.u,.int .i64 o.v]] [pt pb (.cells #[.int .i64 l.V,.int .i64 l.S,.int .i64 l.T,.pointer (some ⟨ab,0,none⟩),.int .i64 (tg),av] 57),zal ab mb 139 29 (σ),ownA encE 5 80 av d] (fun x Bs=>∃ xa xc ya yc va v2,x=.tuple #[.agg #[.slice xa (P).work.size xc,.int .i64 (P).point,.bool (P).tree,.slice ya (P).roots.size yc],va,.bool true]/\Bs=[pt pb (.cells #[.int .i64 l.V,.int .i64 l.S,.int .i64 l.T,.pointer (some ⟨ab,0,none⟩),.int .i64 (tg),v2] 57),zal ab mb 139 29 (t),ownA encE 5 80 v2 (cutA d i),ownA zav 3 34 (.slice xa (P).work.size xc) (P.work),rowS (.slice ya (P).roots.size yc) P.roots,rowS va D1]):=by
 have hb:=zdP hl
 have hDs:D1.size<=2:=by rw [hD]; exact zdW
 refine Fn.enter (Tryz.func54) Z Z (fun w0 R=>?_)
 refine sA (xB 3 Z (fun bk3=>(TL.alloc 4 (cs:=#[.slice none 0 0,.int .i64 0,.bool false,.slice none 0 0]) zb1 Z Z Z (fun _=>Zt) (fun bk4=>(TL.asg (.slice none 0 0) Z Z Z (xaf Z (dS (TC.seq (TC.draw (od [1,3,5,7,9,11,13,15,17,19,21,23,25,27,29,31,33,35,37,39,41,43,45,47,49,51,53,55,57,59,61,63,65,67,69]) [0,3] fc_m (by kernel_rfl) (xf 1 zaY Z ?_))))))))))
 refine xli 3 zad Z Z (xf 2 zaX Z (xli 3 zad Z Z (TL.eqlF Z Z (by omega) Z Z (xmf Z (xf 1 zaY Z (xli 3 zad Z Z (TL.lssF Z Z (by omega) Z Z (xpF Z ?_))))))))
 refine xmf Z (xf 1 zaY Z (xli 3 zad Z Z (xmp Z (xN0 Z (xf 0 zaF Z (xf 0 zaJ Z (xli 0 zad Z Z (TL.geqF Z Z (by omega) Z Z ?_))))))))
 refine xpF Z (xmf Z (xf 2 zaX Z (xli 3 zad Z Z (TL.lssF Z Z (by omega) Z Z (xpF Z (xmf Z (xf 2 zaX Z (xli 3 zad Z Z ?_))))))))
 refine xmp Z (xN0 Z (xf 0 zaF Z (xf 0 zaJ Z (xli 0 zad Z Z (TL.geqF Z Z (by omega) Z Z (xpF Z (TL.done (TQ.then ?_))))))))
 refine TC.condF Z (TC.skip (TQ.then (TC.seq (TC.draw (od [1,3,5,7,9,11,13,15,17,19,21,23]) [3] fc_m (by kernel_rfl) (xf 1 zaY Z (xli 3 zad Z Z (xf 2 zaX Z (xli 3 zad Z Z ?_))))))))
 refine TL.min2 Z Z Z Z (xf 1 zaY Z (xli 3 zad Z Z (xf 2 zaX Z (xli 3 zad Z Z (TL.max2 Z Z Z Z (xai Z (xai Z (dS ?_))))))))
 refine TC.draw (od [1,3,5,7,9,13,10,15]) [0] fc_m (by kernel_rfl) (xmp Z (xN0 Z (xf 0 zaF Z (xf 1 zbC Z (xli 0 zad Z Z (xai Z (TL.mkO 5 (enc:=encB) (N:=l.S) (false) Z Z zhT zys Z (by decide) (by omega) Z Z (fun bk5=>⟨(kL1 Z Zt),?_⟩))))))))
 refine xas Z (dS (TC.seq (TC.ownW 2 Z (fun a9 g9 c9 hv9 hc9 ha9=>?_))))
 cases hv9
 obtain rfl:=ha9 (by omega)
 refine TC.region (xmp Z (xN0 Z (xf 5 zcG Z (xlv 0 zho Z Z (xz zbE Z (xmi Z (dK (TC.loopK (X:=Nat×Array Bool) [0,3,4,5,6,7,8,10,74,75] [0,1,2,3,4] (fun ⟨k,D⟩=>[(76,.int .i64 ((k:Nat):Int)),(9,.int .i64 (atN d (min o.u o.v) (max o.u o.v) k))]) (fun ⟨k,D⟩=>[(5,ownA encB 1 4 (.slice (some ⟨bk5,0,none⟩) l.S l.S) D)]) (fun ⟨k,D⟩=>(k<=d.size/\D.size=l.S)/\UsE d k D) (fun ⟨k,D⟩=>d.size - k) ((0,Array.replicate l.S false)) ⟨⟨Nat.zero_le _,by simp⟩,UsE.start⟩ ⟨Z,Z,Zt⟩ ⟨Z,Zt⟩ (fun y hI=>?_)))))))))
 obtain ⟨k,D⟩:=y
 obtain ⟨⟨hk,hDz⟩,hU⟩:=hI
 replace hk:k<=d.size:=hk
 replace hDz:D.size=l.S:=hDz
 replace hU:UsE d k D:=hU
 refine TC.sub (env':=[(76,_),(9,_),(0,_),(3,_),(4,_),(5,_),(6,_),(7,_),(8,_),(10,_),(74,_),(75,_)]) (L':=[(5,_),(0,_),(1,_),(2,_),(3,_),(4,_)]) ⟨Z,Z,Z,Z,Z,Z,Z,Z,Z,Z,Z,Z,Zt⟩ ⟨Z,Z,Z,Z,Z,Z,Zt⟩ (sA (TL.lss Z Z Z Z (fun q1=>?_) (fun q1=>?_)))
 refine dS (TC.condT Z (TC.skip (TQ.then (TC.seq (TC.block (sA (xmi Z (TL.iaO Z ha9 Z zbE (by omega) Z Z ?_))))))))
 refine TL.ldRx 2 [_,_,_,_,_] Z Z (zaP ha9) (by omega) Z zgi Z Z (TL.alloc 6 (cs:=#[.int .i64 0,.int .i64 0,.int .i64 0,.int .i64 0,.bool false]) zm5 Z Z Z (fun _=>Zt) (fun bk6=>(xai Z (TL.stW 6 5 [_,_,_,_,_] Z Z Z Z Z Z zgi Z Z Zt (dS ?_)))))
 obtain ⟨s,hs⟩:∃ s:Nat,d[k]!.slot=(s:Int):=⟨d[k]!.slot.toNat,by have:=hsl k (by omega); omega⟩
 have hsz:=hsl k (by omega)
 rw [hs]
 refine TC.region (xms Z (xf 0 zgh Z (xli 6 zad Z Z (TL.iaO Z (fun _=>Z) Z zcF (by omega) Z Z (TL.stOF 5 (o:=0) (i:=s) (cur:=D[s]!) (u:=true) (by omega) Z Z Z Z (by omega) (Z) ⟨Z,Z⟩ Z zd3 Z Z Zt (dA (xf 1 zhV Z (xli 6 zad Z Z ?_))))))))
 refine xmi Z (TL.eql Z Z Z Z (fun q2=>?_) (fun q2=>?_))
 refine xmt Z (xf 2 zhU Z (xli 6 zad Z Z (xmi Z (TL.eql Z Z Z Z (fun q3=>?_) (fun q3=>?_)))))
 refine xpT Z (TL.done (TQ.then (TC.condT Z (TC.region (xmi Z (xai Z (dI (TL.add (((k+1:Nat):Int)) Z Z (wrN (by omega)) Z Z ?_))))))))
 refine xmi Z (TL.done (TQ.roundK ((k+1,_)) ⟨⟨⟨(show k+1<=d.size by omega),(show (D.setIfInBounds _ _).size=l.S by simp; omega)⟩,hU.step hs⟩,(show d.size - (k+1)<d.size - k by omega)⟩ ⟨Z,congrArg (fun z=>some (Value.int .i64 z)) (zoB (by assumption) (by assumption)),Zt⟩ ⟨Z,Zt⟩ (kE8 Z Z Z Z Z Z Z Z (kE2 Z Z Zt)) (kL5 Z Z Z Z Z Zt)))
 refine xpG Z (TL.done (TQ.then (TC.condF Z (TC.skip (TQ.inBlock (TQ.then (TC.region (TL.add (((k+1:Nat):Int)) Z Z (wrN (by omega)) Z Z ?_))))))))
 refine xmi Z (TL.done (TQ.roundK ((k+1,_)) ⟨⟨⟨(show k+1<=d.size by omega),(show (D.setIfInBounds _ _).size=l.S by simp; omega)⟩,hU.step hs⟩,(show d.size - (k+1)<d.size - k by omega)⟩ ⟨Z,congrArg (fun z=>some (Value.int .i64 z)) (zut (by assumption)),Zt⟩ ⟨Z,Zt⟩ (kE8 Z Z Z Z Z Z Z Z (kE2 Z Z Zt)) (kL5 Z Z Z Z Z Zt)))
 refine xmf Z (xo Z (xo Z (xo Z (xo Z (xpF Z (TL.done (TQ.then (TC.condF Z ?_))))))))
 refine TC.skip (TQ.inBlock (TQ.then (TC.region (TL.add (((k+1:Nat):Int)) Z Z (wrN (by omega)) Z Z (xmi Z (TL.done (TQ.roundK ((k+1,_)) ⟨⟨⟨(show k+1<=d.size by omega),(show (D.setIfInBounds _ _).size=l.S by simp; omega)⟩,hU.step hs⟩,(show d.size - (k+1)<d.size - k by omega)⟩ ⟨Z,congrArg (fun z=>some (Value.int .i64 z)) (zuu (by assumption)),Zt⟩ ⟨Z,Zt⟩ (kE8 Z Z Z Z Z Z Z Z (kE2 Z Z Zt)) (kL5 Z Z Z Z Z Zt))))))))
 refine dS (TC.condF Z (TC.exit (TQ.thenExit (TQ.thenExit (TQ.blockHere (TQ.then (TC.seq ?_)))))))
 obtain rfl:k=d.size:=by omega
 rw [hat]
 refine TC.region (xmp Z (xN0 Z (xf 4 zeZ Z (xli 0 zad Z Z (TL.bld [.int .i64 0,.int .i64 0] [(.int _ _),(.int _ _)] [_,_] zfU zjB ⟨Z,Z,Zt⟩ ⟨Z,Z⟩ Z Z (TL.alloc 7 (cs:=#[.int .i64 0,.int .i64 0]) zfU Z Z Z (fun _=>Zt) (fun bk7=>(TL.stW 7 2 [_,_] Z Z Z Z Z Z zba Z Z Zt (dS ?_)))))))))
 refine TC.block (sA (xf 0 zd7 Z (xli 3 zad Z Z (TL.eqlT Z Z (by omega) Z Z (xmt Z (xmi Z (TL.geqT Z Z (by omega) Z Z (xpT Z ?_))))))))
 refine xat Z (dT Z (xmp Z (xN0 Z (xf 5 zcG Z (xlv 0 zho Z Z (xmi Z (TL.iaO Z ha9 Z zbE (by omega) Z Z (xf 0 zgh Z ?_))))))))
 refine TL.ldRF 2 (.int _ _) Z Z (zaP ha9) (by omega) (zzw _).1 Z zad Z Z (xai Z (dS ?_))
 have hAa:zbj (ownA encE 5 80 (.slice (some ⟨g9,0,none⟩) d.size c9) d) encE 5 g9 0 d.size (fun i=>d[i]!):=zaP ha9
 refine TC.draw2 [(0,true),(2,true),(3,true),(4,true),(5,true),(6,true),(7,true),(9,true),(10,true),(11,true),(12,true),(13,true),(14,true),(15,true),(1,false),(8,false),(16,false),(17,true),(18,true)] 19 [] [0] fc_m (by kernel_rfl) (xmp Z (xmp Z (xN0 Z (xf 5 zcG Z (xlv 0 zho Z Z (xmi Z (TL.slHi Z Z zbE (by omega) Z Z (xmp Z ?_))))))))
 refine xN0 Z (xf 5 zcG Z (xlv 0 zho Z Z (xmi Z (TL.add (((i+1:Nat):Int)) Z Z (wrN (by omega)) Z Z (TL.slLo Z Z zbE (by omega) Z Z (TL.bs0 8 encE zbE Z Z (fun bk8=>⟨(kL1 Z Zt),?_⟩)))))))
 obtain ⟨ad0,had0⟩:=zoW (ad:=⟨g9,0,none⟩) (i:=0) (size:=5) (cap:=c9)
 rw [had0]
 refine TL.appS 8 2 (d2:=rngE (fun j=>d[j]!) i) Z (zbR _ _) Z (fun h=>had0.symm.trans (zfI (len:=d.size) (i:=0) ha9 hc9 (by omega))) Z Z ((hAa.take (m:=i) (by omega)).congr fun j hj=>(zg0 _ hj).symm) zl4 (by decide) zgO (by rw [zbR]; simp; omega) Z Z (fun v9=>⟨(kL1 Z Zt),?_⟩)
 obtain ⟨ad,had⟩:=zoW (ad:=⟨g9,0,none⟩) (i:=i+1) (size:=5) (cap:=c9)
 rw [had]
 refine TL.appS 8 2 (d2:=rngE (fun j=>d[i+1+j]!) (d.size - (i+1))) Z (zbR _ _) Z (fun h=>had.symm.trans (zfI (len:=d.size) ha9 hc9 h)) Z Z ((hAa.drop (i+1) (d.size - (i+1)) (by omega)).congr fun j hj=>(zg0 (fun j=>d[i+1+j]!) hj).symm) zl4 (by decide) zgO (by rw [zbR]; simp [zbR]; omega) Z Z (fun v10=>⟨(kL1 Z Zt),?_⟩)
 have hcut:(#[]:Array EdR)++rngE (fun j=>d[j]!) i++rngE (fun j=>d[i+1+j]!) (d.size - (i+1))=cutA d i:=by unfold cutA; simp only [Array.empty_append]
 rw [hcut]
 have hcs:(cutA d i).size=d.size - 1:=zjX hl hi
 refine TL.ownW 8 Z (fun a6 g6 c6 hv6 _ _=>?_)
 cases hv6
 refine xN0 Z (xf 5 zcG Z (TL.late (TL.st 0 #[_,_,_,_,_,_] _ Z Z Z Z Z Z zho Z Z Zt (dA (xmp Z (xmi Z (xmi Z (TL.call [0,1] [0,1,11] (zjq hl) ⟨Z,Z,Z,Zt⟩ ⟨Z,Z,Zt⟩ zta Z Z Z Z ?_))))))))
 rintro r9 Bs rfl
 refine ⟨Z,Zt,?_⟩
 rw [show zbq l (zaw (zaS l σ (min o.u o.v)) (zaS l σ (max o.u o.v))) [] 1 (zaw (zaS l σ (min o.u o.v)) (zaS l σ (max o.u o.v))).size σ=t from ht.symm]
 rw [show zaw (zaS l σ (min o.u o.v)) (zaS l σ (max o.u o.v))=D1 from hD.symm]
 refine TL.rowS 11 Z (fun a7 b7 o7 c7 hv7 hc7 ha7=>⟨Zt,?_⟩)
 cases hv7
 refine xas Z (dS (TC.draw (od [1,3,5,7,9,11,13,15,17,19,21,25,22,26,29,31]) [0,7] fc_m (by kernel_rfl) (xmp Z (xN0 Z (xf 3 zci Z (xlp 0 zdU Z Z (xmp Z (xN0 Z ?_))))))))
 refine xf 0 zaF Z (xL3 0 zab Z Z (xL2 7 zba Z Z (xms Z (xmi Z (xms Z (TL.openE 1 Z (fun n0=>⟨(kL2 Z Z Zt),?_⟩)))))))
 refine TL.call [1,11] [1,11,12,13] (zp9 (p:=⟨1,tg⟩) hl ha7 hDs Z zcw htz.1 htz.2 hg hP hne) ⟨Z,Z,Z,Z,Z,Zt⟩ ⟨Z,Z,Zt⟩ zzr Z Z Z Z ?_
 rintro r9 Bs ⟨xa,xc,ya,yc,rfl,rfl⟩
 refine ⟨Z,(kL2 Z Z Zt),?_⟩
 refine TL.conseq 1 (B:=zal ab mb 139 29 (t)) Z (fun h hh=>zfw hh) (kL2 Z Z Zt) (TL.stW 4 4 [_,_,_,_] Z Z Z Z Z Z zat Z Z (kL2 Z Z Zt) (xas Z (xat Z (dR (TQ.blockRet (TQ.thenRet (TQ.conseq 11 (B:=rowS _ D1) Z (fun _ h=>⟨_,_,_,_,Z,hc7,ha7,h⟩) ?_)))))))
 refine FQ.retG (rs:=[.cell 4 50,.tmp 5,.tmp 6]) [(.agg _),(.slice _ _ _),(.bool true)] (Bs:=[_,_,_,_,_,_]) [0,1,8,12,13,11] Z ⟨⟨_,_,_,_,_,4,Z,Z,.inr ⟨4,[_,_,_,_],zat,Z,Z⟩⟩,Z,Z,Zt⟩ Z Z ⟨Z,Z,Z,Z,Z,Z,Zt⟩ ?_
 exact ⟨_,_,_,_,_,_,Z,Z⟩
theorem zr7 {l:Lay} (hl:l.Ok) {pb ab mb:Nat} {tg:Int} {av:Value} {σ:Array UInt64} {d:Array EdR} {o:Op3} {pr:Int->Int} {k:Nat} {g:G} (h:P19 l pr k σ tg g d) (hk:k<=60000):Go.Eng.Fn Tryz.prog 54 [.pointer (some ⟨pb,0,none⟩),.agg #[.int .i64 o.kind,.int .i64 o.u,.int .i64 o.v]] [pt pb (.cells #[.int .i64 l.V,.int .i64 l.S,.int .i64 l.T,.pointer (some ⟨ab,0,none⟩),.int .i64 (tg),av] 57),zal ab mb 139 29 (σ),ownA encE 5 80 av d] (fun x Bs=>∃ (P:PlanS) (xa:Option Addr) (xc:Nat) (ya:Option Addr) (yc:Nat) (va v2:Value) (ok:Bool) (m2:Array UInt64) (d2:Array EdR) (D1:Array Int),x=.tuple #[.agg #[.slice xa (P).work.size xc,.int .i64 (P).point,.bool (P).tree,.slice ya (P).roots.size yc],va,.bool ok]/\Bs=[pt pb (.cells #[.int .i64 l.V,.int .i64 l.S,.int .i64 l.T,.pointer (some ⟨ab,0,none⟩),.int .i64 (tg),v2] 57),zal ab mb 139 29 (m2),ownA encE 5 80 v2 d2,ownA zav 3 34 (.slice xa (P).work.size xc) (P.work),rowS (.slice ya (P).roots.size yc) P.roots,rowS va D1]/\(ok=false/\m2=σ/\d2=d\/ok=true/\∃ (u v s:Int) (g2:G),m2=zar l σ u v/\D1=zbM l σ u v/\Cl19 l pr k σ tg g d P u v s g2 d2/\min u v=min o.u o.v/\max u v=max o.u o.v)):=by
 have hb:=zdP hl
 have hT:1<=l.T:=by omega
 have hr:=h.r14 hl
 have hd:d.size<=100:=by have:=hr.size hl; omega
 have hsl:∀ j,j<d.size->0<=d[j]!.slot/\d[j]!.slot<l.S:=fun j hj=>(hr.rng hl hj).1
 have hcb:=zf0 hl
 have hz:∀ {u v:Int},0<=u/\u<l.V->0<=v/\v<l.V->0<(zar l σ u v).size/\(zar l σ u v).size<=20000:=fun {u v} hu hv=>by
  obtain ⟨_,_,hH⟩:=h.hold hl hT hk hu hv
  have e:((zar l σ u v).size:Int)=l.cells:=hH.calm.rt.size
  have:=(zaL hl (x:=l.vertex 0 u) (f:=0) (vx0 hl hu).1 (by decide))
  omega
 by_cases hx:o.u=o.v\/o.u<0\/l.V<=o.u\/o.v<0\/l.V<=o.v
 ·exact (zvq hl hd hsl hx).mono fun _ _ ⟨h1,h2⟩=>⟨⟨#[],0,false,#[]⟩,none,0,none,0,_,_,false,σ,d,#[],h1,h2,.inl ⟨Z,Z,Z⟩⟩
 have hu:0<=o.u/\o.u<l.V:=by omega
 have hv:0<=o.v/\o.v<l.V:=by omega
 have hat:=zp2 (d:=d) (a:=min o.u o.v) (b:=max o.u o.v) d.size
 by_cases hd2:o.kind=2/\0<=atN d (min o.u o.v) (max o.u o.v) d.size
 ·rcases hat with ⟨ha,_⟩ | ⟨i,hi,ha,h1,h2⟩
  ·rw [ha] at hd2; exact absurd hd2.2 (by decide)
  obtain ⟨⟨b,q,ok⟩,τ,P,g2,e1,e2,e3,hc⟩:=h.call_del hl hT hk hi h1.symm h2.symm
  exact (zvs hl hd hsl hx Z Z (hz hc.hu hc.hv) hd2.1 hi ha e1 e2 e3).mono fun x Bs ⟨xa,xc,ya,yc,va,v2,k1,k2⟩=>⟨P,xa,xc,ya,yc,va,v2,true,_,_,_,k1,k2,.inr ⟨Z,_,_,_,g2,Z,Z,hc,by omega,by omega⟩⟩
 by_cases hi2:o.kind=1/\atN d (min o.u o.v) (max o.u o.v) d.size<0/\∃ s:Nat,s<l.S/\∀ j,j<d.size->d[j]!.slot≠(s:Int)
 ·obtain ⟨hk1,ha0,s0,hs0⟩:=hi2
  rcases hat with ⟨ha,hfr⟩ | ⟨i,hi,ha,_⟩
  ·obtain ⟨s,hs,_,hlt⟩:=least (P:=fun s:Nat=>s<l.S/\∀ j,j<d.size->d[j]!.slot≠(s:Int)) hs0
   obtain ⟨b,τ,P,g2,e1,e2,e3,hc⟩:=h.call_ins hl hT hk (s:=(s:Int)) hu hv (by omega) ⟨by omega,by omega⟩ hs.2 hfr
   have hlt2:∀ q:Nat,q<s->∃ j,j<d.size/\d[j]!.slot=(q:Int):=fun q hq=>by
    refine Classical.byContradiction fun hn=>hlt q hq ⟨by omega,fun j hj e=>hn ⟨j,hj,e⟩⟩
   exact (zvr hl hd hsl hx zvL.symm zpD.symm (hz hu hv) hk1 ha0 (by omega) hs.2 hlt2 e1 e2 e3).mono fun x Bs ⟨xa,xc,ya,yc,va,v2,k1,k2⟩=>⟨P,xa,xc,ya,yc,va,v2,true,_,_,_,k1,k2,.inr ⟨Z,_,_,_,g2,Z,Z,hc,Z,Z⟩⟩
  ·rw [ha] at ha0; omega
 refine (zvp hl hd hsl hx hd2 fun hk1 ha s hs=>?_).mono fun _ _ ⟨h1,h2⟩=>⟨⟨#[],0,false,#[]⟩,none,0,none,0,_,_,false,σ,d,#[],h1,h2,.inl ⟨Z,Z,Z⟩⟩
 refine Classical.byContradiction fun hn=>hi2 ⟨hk1,ha,s,hs,fun j hj e=>hn ⟨j,hj,e⟩⟩
set_option maxHeartbeats 4000000 in
theorem zqc {l:Lay} (hl:l.Ok) {pb ab mb:Nat} {tg0:Int} {av:Value} {σ:Array UInt64} {pr:Int->Int} {κ:Type} {C0 C1 C2 C3 C4 C5:κ->Assn} {J:Nat->Array UInt64->Int->Array EdR->κ->Prop} {K:Nat->Array UInt64->Int->Array EdR->PlanS->Int->Int->Array EdR->Nat->κ->Prop} {fe fl:FuncId} {ce cl:List Value} (hfe:zai Tryz.prog fe=true) (hfl:zai Tryz.prog fl=true) (hS:∀ {k:Nat} {m:Array UInt64} {tg:Int} {g:G} {d:Array EdR} {P:PlanS} {u v s:Int} {g2:G} {d2:Array EdR} {x:κ},k<=24->P19 l pr k m tg g d->Cl19 l pr k m tg g d P u v s g2 d2->J k m tg d x->K k m tg d P u v d2 0 x) (hE:∀ {k:Nat} {m:Array UInt64} {tg:Int} {g:G} {d:Array EdR} {P:PlanS} {u v s:Int} {g2:G} {d2:Array EdR} {x:κ} {n:Nat} {xa:Option Addr} {xc:Nat} {ya:Option Addr} {yc:Nat} {va v2:Value},k<=24->P19 l pr k m tg g d->Cl19 l pr k m tg g d P u v s g2 d2->n<=P.work.size->K k m tg d P u v d2 n x->Go.Eng.Fn Tryz.prog fe ([.agg #[.slice xa (P).work.size xc,.int .i64 P.point,.bool P.tree,.slice ya (P).roots.size yc],va,.int .i64 (n:Int)]++ce) [pt pb (.cells #[.int .i64 l.V,.int .i64 l.S,.int .i64 l.T,.pointer (some ⟨ab,0,none⟩),.int .i64 (tg),v2] 57),zal ab mb 139 29 (runA (zar l m u v) P.work (n)),ownA encE 5 80 v2 d2,ownA zav 3 34 (.slice xa (P).work.size xc) (P.work),rowS (.slice ya (P).roots.size yc) P.roots,rowS va (zbM l m u v),(C0 (x)),(C1 (x)),(C2 (x)),(C3 (x)),(C4 (x)),(C5 (x))] (fun r Bs=>r=.bool true/\∃ y,Bs=[pt pb (.cells #[.int .i64 l.V,.int .i64 l.S,.int .i64 l.T,.pointer (some ⟨ab,0,none⟩),.int .i64 (tg),v2] 57),zal ab mb 139 29 (runA (zar l m u v) P.work (n)),ownA encE 5 80 v2 d2,ownA zav 3 34 (.slice xa (P).work.size xc) (P.work),rowS (.slice ya (P).roots.size yc) P.roots,rowS va (zbM l m u v),(C0 (y)),(C1 (y)),(C2 (y)),(C3 (y)),(C4 (y)),(C5 (y))]/\K k m tg d P u v d2 (n+1) y)) (hL:∀ {k:Nat} {m:Array UInt64} {tg:Int} {g:G} {d:Array EdR} {P:PlanS} {u v s:Int} {g2:G} {d2:Array EdR} {x:κ} {xa:Option Addr} {xc:Nat} {ya:Option Addr} {yc:Nat} {va v2:Value},k<=24->P19 l pr k m tg g d->Cl19 l pr k m tg g d P u v s g2 d2->K k m tg d P u v d2 (P.work.size+1) x->Go.Eng.Fn Tryz.prog fl ([.agg #[.slice xa (P).work.size xc,.int .i64 P.point,.bool P.tree,.slice ya (P).roots.size yc],va]++cl) [pt pb (.cells #[.int .i64 l.V,.int .i64 l.S,.int .i64 l.T,.pointer (some ⟨ab,0,none⟩),.int .i64 (tg),v2] 57),zal ab mb 139 29 (runM (zar l m u v) P.work.toList),ownA encE 5 80 v2 d2,ownA zav 3 34 (.slice xa (P).work.size xc) (P.work),rowS (.slice ya (P).roots.size yc) P.roots,rowS va (zbM l m u v),(C0 (x)),(C1 (x)),(C2 (x)),(C3 (x)),(C4 (x)),(C5 (x))] (fun r Bs=>r=.bool true/\∃ y,Bs=[pt pb (.cells #[.int .i64 l.V,.int .i64 l.S,.int .i64 l.T,.pointer (some ⟨ab,0,none⟩),.int .i64 (tg),v2] 57),zal ab mb 139 29 (runM (zar l m u v) P.work.toList),ownA encE 5 80 v2 d2,ownA zav 3 34 (.slice xa (P).work.size xc) (P.work),rowS (.slice ya (P).roots.size yc) P.roots,rowS va (zbM l m u v),(C0 (y)),(C1 (y)),(C2 (y)),(C3 (y)),(C4 (y)),(C5 (y))]/\J (k+1) (endM l (zar l m u v) P) (if P.tree then tg+1 else tg) d2 y)) {oa:Option Addr} {on oc bo offo:Nat} {Ao:Assn} {fo:Nat->Op3} (hoa:0<on->oa=some ⟨bo,offo,none⟩) (hAo:zbj Ao ztY 3 bo offo on fo) (hon:on<=24) {da:Option Addr} {dn dc:Nat} {g0:G} {d0:Array EdR} {x0:κ} (h0:P19 l pr 0 σ tg0 g0 d0) (hJ0:J 0 σ tg0 d0 x0)  : Go.Eng.Fn Tryz.prog 37 [.pointer (some ⟨pb,0,none⟩),.agg #[.int .i64 l.V,.int .i64 l.S,.int .i64 l.T,.slice da dn dc,.slice oa on oc],.func (.func fe) #[] ce.toArray,.func (.func fl) #[] cl.toArray] [pt pb (.cells #[.int .i64 l.V,.int .i64 l.S,.int .i64 l.T,.pointer (some ⟨ab,0,none⟩),.int .i64 (tg0),av] 57),zal ab mb 139 29 (σ),ownA encE 5 80 av d0,Ao,(C0 (x0)),(C1 (x0)),(C2 (x0)),(C3 (x0)),(C4 (x0)),(C5 (x0))] (fun r Bs=>r=.bool true/\∃ t9 v9 m9 d9 y9,Bs=[pt pb (.cells #[.int .i64 l.V,.int .i64 l.S,.int .i64 l.T,.pointer (some ⟨ab,0,none⟩),.int .i64 (t9),v9] 57),zal ab mb 139 29 (m9),ownA encE 5 80 v9 d9,Ao,(C0 (y9)),(C1 (y9)),(C2 (y9)),(C3 (y9)),(C4 (y9)),(C5 (y9))]):=by
 have hb:=zdP hl
 have hT:1<=l.T:=by omega
 refine Fn.enter (Tryz.func37) Z Z (fun w0 R=>?_)
 refine sA (xB 10 Z (fun bk10=>(xaf Z (dB (xf 4 zkL Z (xls 10 zwT Z Z (xz zgN Z (xmi Z (dK ?_)))))))))
 refine TC.loopK (X:=Nat×Nat×Array UInt64×Int×G×Array EdR×κ×Value) [0,2,3,18,19] [3,10] (fun ⟨i,k,m,tg,g,d,y,v⟩=>[(20,.int .i64 ((i:Nat):Int))]) (fun ⟨i,k,m,tg,g,d,y,v⟩=>[(0,pt pb (.cells #[.int .i64 l.V,.int .i64 l.S,.int .i64 l.T,.pointer (some ⟨ab,0,none⟩),.int .i64 (tg),v] 57)),(1,zal ab mb 139 29 (m)),(2,ownA encE 5 80 v d),(4,C0 y),(5,C1 y),(6,C2 y),(7,C3 y),(8,C4 y),(9,C5 y)]) (fun ⟨i,k,m,tg,g,d,y,v⟩=>(i<=on/\k<=i)/\P19 l pr k m tg g d/\J k m tg d y) (fun ⟨i,k,m,tg,g,d,y,v⟩=>on - i) ((0,0,σ,tg0,g0,d0,x0,av)) ⟨⟨Nat.zero_le _,Nat.zero_le _⟩,h0,hJ0⟩ ⟨Z,Zt⟩ ⟨Z,Z,Z,Z,Z,Z,Z,Z,Z,Zt⟩ (fun z hI=>?_)
 obtain ⟨i,k,m,tg,g,d,y,v⟩:=z
 obtain ⟨⟨hi,hki⟩,hP,hJ⟩:=hI
 replace hi:i<=on:=hi
 replace hki:k<=i:=hki
 replace hP:P19 l pr k m tg g d:=hP
 replace hJ:J k m tg d y:=hJ
 refine TC.sub (env':=[(20,_),(0,_),(2,_),(3,_),(18,_),(19,_)]) (L':=[(0,_),(1,_),(2,_),(4,_),(5,_),(6,_),(7,_),(8,_),(9,_),(3,_),(10,_)]) ⟨Z,Z,Z,Z,Z,Z,Zt⟩ ⟨Z,Z,Z,Z,Z,Z,Z,Z,Z,Z,Z,Zt⟩ (sA (TL.lss Z Z Z Z (fun q1=>?_) (fun q1=>?_)))
 refine dS (TC.condT Z (TC.skip (TQ.then (TC.seq (TC.block (sA (TL.iaO Z hoa Z zgN (by omega) Z Z (TL.ldRx 3 [_,_,_] Z Z hAo (by omega) Z zl1 Z Z ?_))))))))
 refine TL.alloc 11 (cs:=#[.int .i64 0,.int .i64 0,.int .i64 0]) zAm Z Z Z (fun _=>Zt) (fun bk11=>(TL.stW 11 3 [_,_,_] Z Z Z Z Z Z zl1 Z Z Zt (dA (xmp Z (xL3 11 zl1 Z Z (TL.call [0,1,2] [0,1,2,12,13,14] (zr7 hl hP (by omega)) ⟨Z,Z,Zt⟩ ⟨Z,Z,Z,Zt⟩ zAH Z Z Z Z ?_))))))
 rintro x Bs ⟨P,xa,xc,ya,yc,va,v2,ok,m2,d2,D1,rfl,rfl,hP2⟩
 refine ⟨Z,Zt,?_⟩
 refine xmu Z (TL.ext (.agg _) Z Z Z Z (xev Z Z (TL.ext (.bool _) Z Z Z Z (TL.alloc 15 (cs:=#[.slice none 0 0,.int .i64 0,.bool false,.slice none 0 0]) zb1 Z Z Z (fun _=>Zt) (fun bk15=>(TL.stW 15 4 [_,_,_,_] Z Z Z Z Z Z zat Z Z Zt (xav Z (xab Z (dB ?_)))))))))
 refine xmb rfl (TL.cases rfl (fun q2=>?_) (fun q2=>?_))
 refine xnt Z (TL.done (TQ.then (TC.condF Z (TC.skip (TQ.then (TC.seq ?_))))))
 obtain rfl:ok=true:=by assumption
 rcases hP2 with ⟨h9,_⟩ | ⟨_,u,v,s,g2,rfl,rfl,hC,_⟩
 ·cases h9
 obtain ⟨hgood,hne,hnx⟩:=hC.next hl hP hT (by omega)
 have hwsz:=hC.wsz
 refine TC.ownW 12 Z (fun a8 g8 c8 hv8 hc8 ha8=>?_)
 cases hv8
 refine TC.region (xf 0 za9 Z (xls 15 zcf Z Z (TL.call [12] [12,16,17] (zjm ha8 hC.wsz (zaP ha8)) ⟨Z,Zt⟩ ⟨Z,Zt⟩ ztD Z Z Z Z ?_)))
 rintro x Bs ⟨rb,v,rfl,rfl⟩
 refine ⟨Z,Zt,?_⟩
 rw [ziz]
 refine TL.ownW 17 Z (fun a6 g6 c6 hv6 hc6 ha6=>?_)
 cases hv6
 refine xap Z (dB (xmp Z (TL.nilP false Z Z zs8 Z Z Z (xmf Z (xf 0 za9 Z (xls 15 zcf Z Z (xz zam Z (TL.eqlF Z Z (by omega) Z Z ?_))))))))
 refine xpF Z (xmf Z (xmv Z (xL4 15 zat Z Z (xmv Z (TL.callCF (c1:=[]) (c2:=ce) (vs:=[_,_,_]) [0,1,2,12,13,14,4,5,6,7,8,9] [0,1,2,12,13,14,4,5,6,7,8,9] Z (hE (n:=0) (by omega) hP hC (Nat.zero_le _) (hS (by omega) hP hC hJ)) ⟨Z,Z,Z,Zt⟩ ⟨Z,Z,Z,Z,Z,Z,Z,Z,Z,Z,Z,Z,Zt⟩ hfe Z Z Z Z ?_)))))
 rintro r9 Bs ⟨rfl,y9,rfl,hK⟩
 refine ⟨Z,Zt,?_⟩
 refine xnt Z (xpF Z (TL.done (TQ.then (TC.condF Z (TC.skip (TQ.then (sB (xai Z ?_))))))))
 refine dK (TC.loopK (X:=Nat×κ) [0,2,3,11,12,14,18,19,20] [0,2,3,10,11,12,13,14,15,17] (fun ⟨k9,y⟩=>[(15,.int .i64 ((k9+1:Nat):Int))]) (fun ⟨k9,y⟩=>[(16,pt rb (.cells #[.slice a6 P.work.size c6,.int .i64 (((k9:Nat):Int)),.bool (badA (zar l m u v) P.work k9)] 145)),(1,zal ab mb 139 29 (runA (zar l m u v) P.work (k9))),(4,C0 y),(5,C1 y),(6,C2 y),(7,C3 y),(8,C4 y),(9,C5 y)]) (fun ⟨k9,y⟩=>k9<P.work.size/\K k m tg d P u v d2 (k9+1) y) (fun ⟨k9,y⟩=>P.work.size - k9) ((0,y9)) ⟨by show 0<P.work.size; omega,hK⟩ ⟨Z,Zt⟩ ⟨Z,Z,Z,Z,Z,Z,Z,Z,Zt⟩ (fun z hI=>?_))
 obtain ⟨k9,y8⟩:=z
 obtain ⟨hk9,hK⟩:=hI
 replace hk9:k9<P.work.size:=hk9
 replace hK:K k m tg d P u v d2 (k9+1) y8:=hK
 refine TC.sub (env':=[(15,_),(0,_),(2,_),(3,_),(11,_),(12,_),(14,_),(18,_),(19,_),(20,_)]) (L':=[(16,_),(1,_),(4,_),(5,_),(6,_),(7,_),(8,_),(9,_),(0,_),(2,_),(3,_),(10,_),(11,_),(12,_),(13,_),(14,_),(15,_),(17,_)]) ⟨Z,Z,Z,Z,Z,Z,Z,Z,Z,Z,Zt⟩ ⟨Z,Z,Z,Z,Z,Z,Z,Z,Z,Z,Z,Z,Z,Z,Z,Z,Z,Z,Zt⟩ (TC.seq (TC.block (sA (xmp Z (xmp Z (xN0 Z (xf 3 zci Z (xlp 0 zdU Z Z ?_))))))))
 refine xD [16,17,1] (znH hC.wsz hc6 ha6 hk9 hC.vals) ztw Z ?_
 rw [show (badA (zar l m u v) P.work k9 || !accG P.work[k9]! (runA (zar l m u v) P.work k9))=badA (zar l m u v) P.work (k9+1) from Z,show acc1 P.work[k9]! (runA (zar l m u v) P.work k9)=runA (zar l m u v) P.work (k9+1) from Z]
 refine xab Z (dB (xmi Z (xf 0 za9 Z (xls 15 zcf Z Z (xz zam Z (TL.gtrF Z Z (by omega) Z Z (xmf Z (xmp Z ?_))))))))
 refine xD [16] zje ztp Z (xmi Z (TL.neqF Z Z (fun h=>h Z) Z Z (xpF Z (xmf Z (xmp Z (xD [16] zlf ztn Z ?_))))))
 rw [show (!badA (zar l m u v) P.work (k9+1))=true by rw [zoA hgood (show k9+1<=P.work.size by omega)]; rfl]
 refine xnt Z (xpF Z (xmf Z (xmb Z (xmi Z (xf 0 za9 Z (xls 15 zcf Z Z (xz zam Z (TL.eqlV Z Z Z Z ?_))))))))
 refine TL.neqB Z Z zAP Z Z ?_
 rw [(show (!(decide (k9+1=P.work.size) == decide (((k9+1:Nat):Int)=(P.work.size:Int))))=false by rw [show decide (((k9+1:Nat):Int)=(P.work.size:Int))=decide (k9+1=P.work.size) from decide_eq_decide.2 (by omega)]; simp)]
 refine xpF Z (xmf Z (xmv Z (xL4 15 zat Z Z (xmv Z (xmi Z (TL.callCF (c1:=[]) (c2:=ce) (vs:=[_,_,_]) [0,1,2,12,13,14,4,5,6,7,8,9] [0,1,2,12,13,14,4,5,6,7,8,9] Z (hE (n:=k9+1) (by omega) hP hC (by omega) hK) ⟨Z,Z,Z,Zt⟩ ⟨Z,Z,Z,Z,Z,Z,Z,Z,Z,Z,Z,Z,Zt⟩ hfe Z Z Z Z ?_))))))
 rintro r9 Bs ⟨rfl,y9,rfl,hK⟩
 refine ⟨Z,Zt,?_⟩
 refine xnt rfl (xpF rfl (dF rfl (xmb rfl (TL.cases rfl (fun q3=>?_) (fun q3=>?_)))))
 refine TL.done (TQ.then (TC.condT Z (TC.exit (TQ.blockOut Z (TQ.thenExit (TQ.thenExit (TQ.blockHere (TQ.then ?_))))))))
 refine TC.seq (TC.seq ?_)
 have hk2:k9+1=P.work.size:=of_decide_eq_true (by assumption)
 rw [hk2] at hK
 rw [hk2,ziy]
 refine TC.region (xmv Z (xL4 15 zat Z Z (xmv Z (TL.callCF (c1:=[]) (c2:=cl) (vs:=[_,_]) [0,1,2,12,13,14,4,5,6,7,8,9] [0,1,2,12,13,14,4,5,6,7,8,9] Z (hL (by omega) hP hC hK) ⟨Z,Z,Zt⟩ ⟨Z,Z,Z,Z,Z,Z,Z,Z,Z,Z,Z,Z,Zt⟩ hfl Z Z Z Z ?_))))
 rintro r9 Bs ⟨rfl,y9,rfl,hJ9⟩
 refine ⟨Z,Zt,?_⟩
 refine xnt Z (TL.done (TQ.then (TC.condF Z (TC.skip (TQ.then (TC.rowS 13 Z (fun a7 b7 o7 c7 hv7 hc7 ha7=>?_)))))))
 cases hv7
 refine TC.region (xmp Z (xL4 15 zat Z Z (xD [0,1,13] (zvU hl ha7 zcw (by have:=(hC.roots hl hP hT (by omega)).2; omega) (by have:=hP.tg; omega)) zAG Z (dI (TL.add (((i+1:Nat):Int)) Z Z (wrN (by omega)) Z Z (xmi Z (TL.done (TQ.roundK ((i+1,k+1,_,_,g2,d2,y9,_)) ⟨⟨⟨(show i+1<=on by omega),(show k+1<=i+1 by omega)⟩,hnx,hJ9⟩,(show on - (i+1)<on - i by omega)⟩ ⟨Z,Zt⟩ ⟨Z,Z,Z,Z,Z,Z,Z,Z,Z,Zt⟩ (kE5 Z Z Z Z Z Zt) (kL2 Z Z Zt)))))))))
 refine TL.done (TQ.then (TC.condF Z (TC.skip (TQ.inBlock (TQ.then (TC.region (xmi Z (TL.add (((k9+2:Nat):Int)) Z Z (wrN (by omega)) Z Z ?_))))))))
 refine xai Z (TL.done (TQ.roundK ((k9+1,y9)) ⟨⟨(show k9+1<P.work.size by have:¬k9+1=P.work.size:=of_decide_eq_false (by assumption); omega),hK⟩,(show P.work.size - (k9+1)<P.work.size - k9 by omega)⟩ ⟨Z,Zt⟩ ⟨Z,Z,Z,Z,Z,Z,Z,Z,Zt⟩ (kE8 Z Z Z Z Z Z Z Z (kE1 Z Zt)) (kL8 Z Z Z Z Z Z Z Z (kL2 Z Z Zt))))
 refine xnf Z (TL.done (TQ.then (TC.condT Z (TC.exit (TQ.thenExit (TQ.blockHere (TQ.then (TC.region ?_))))))))
 refine TL.add (((i+1:Nat):Int)) rfl rfl (wrN (by omega)) rfl rfl (xmi rfl (TL.done (TQ.roundK ((i+1,k,m2,tg,g,d2,y,_)) (by obtain ⟨e1,e2⟩:m2=m/\d2=d:=(by rcases hP2 with ⟨_,e1,e2⟩ | ⟨h9,_⟩; (· exact ⟨e1,e2⟩); (· exact absurd (h9.symm.trans (by assumption:ok=false)) (by decide))); subst e1 e2; exact ⟨⟨⟨(show i+1<=on by omega),(show k<=i+1 by omega)⟩,hP,hJ⟩,(show on - (i+1)<on - i by omega)⟩) ⟨rfl,trivial⟩ ⟨rfl,rfl,rfl,rfl,rfl,rfl,rfl,rfl,rfl,trivial⟩ (kE5 rfl rfl rfl rfl rfl trivial) (kL2 rfl rfl trivial))))
 refine dS (TC.condF Z (TC.exit (TQ.thenExit (TQ.thenExit (TQ.blockHere (TQ.then (sA (xat Z ?_))))))))
 refine dR ?_
 refine FQ.ret1 (v:=(.bool true)) (Bs:=[_,_,_,_,_,_,_,_,_,_]) [0,1,2,3,4,5,6,7,8,9] Z Z Z ⟨Z,Z,Z,Z,Z,Z,Z,Z,Z,Z,Zt⟩ ?_
 exact ⟨Z,_,_,_,_,_,Z⟩
theorem zvb {V S T:Int}  : FnD Tryz.prog 52 [.agg #[.int .i64 V,.int .i64 S,.int .i64 T]] [] (.agg #[.int .i64 V,.int .i64 S,.int .i64 T]) []:=by
 refine Fn.enter (Tryz.func52) Z Z (fun w0 R=>?_)
 refine sA (xB 0 Z (fun bk0=>(TL.alloc 1 (cs:=#[.int .i64 0,.int .i64 0,.int .i64 0]) zwR Z Z Z (fun _=>Zt) (fun bk1=>(dA (xf 0 zaJ Z (xli 0 zad Z Z (xf 1 zbC Z (xli 0 zad Z Z (xf 2 ze2 Z ?_))))))))))
 refine xli 0 zad Z Z (TL.bld [.int .i64 0,.int .i64 0,.int .i64 0] [(.int _ _),(.int _ _),(.int _ _)] [_,_,_] zwR zAw ⟨Z,Z,Z,Zt⟩ ⟨Z,Z⟩ Z Z (TL.stW 1 3 [_,_,_] Z Z Z Z Z Z zpM Z Z Zt (dR ?_)))
 refine FQ.retG (rs:=[.cell 2 70]) [(.agg _)] (Bs:=[]) [] Z ⟨⟨_,_,_,_,_,1,Z,Z,.inr ⟨3,[_,_,_],zpM,Z,Z⟩⟩,Zt⟩ Z Z Zt ?_
 exact ⟨Z,Z⟩
theorem zkp {V S T:Int}  {da oa:Option Addr} {dn dc on oc:Nat}  : FnD Tryz.prog 24 [.agg #[.int .i64 V,.int .i64 S,.int .i64 T,.slice da dn dc,.slice oa on oc]] [] (.bool (decide (okL V S T/\V<=6/\S<=8/\dn<=60/\on<=24))) []:=by
 refine Fn.enter (Tryz.func24) Z Z (fun w0 R=>?_)
 refine sA (xB 0 Z (fun bk0=>(xaf Z (dA (xf 0 ze1 Z (xL3 0 zab Z Z (xD [] zvb zAI Z (xD [] znN zAD Z (TL.casesP Z (fun q1=>?_) (fun q1=>?_))))))))))
 refine xmt Z (xf 0 ze1 Z (xf 0 zaJ Z (xli 0 zad Z Z (TL.leq Z Z Z Z (fun q2=>?_) (fun q2=>?_)))))
 refine xpT Z (xmt Z (xf 0 ze1 Z (xf 1 zbC Z (xli 0 zad Z Z (TL.leq Z Z Z Z (fun q3=>?_) (fun q3=>?_))))))
 refine xpT Z (xmt Z (xf 3 zkM Z (xls 0 zih Z Z (xz za6 Z (TL.leq Z Z Z Z (fun q4=>?_) (fun q4=>?_))))))
 refine xpT Z (xmt Z (xf 4 zkL Z (xls 0 zwT Z Z (xz zgN Z (TL.leqV Z Z Z Z (TL.pickT (.bool _) Z Z Z Z (xab Z (dR ?_))))))))
 refine FQ.ret1 (v:=(.bool _)) (Bs:=[]) [] Z Z Z Zt ?_
 exact ⟨congrArg Value.bool (by first | (simp [*]; done) | (simp [*]; omega) | (rw [eq_comm,decide_eq_false_iff_not]; intro hc; obtain ⟨c1,c2,c3,c4,c5⟩:=hc; first | omega | (simp_all; done)) | (rw [eq_comm,decide_eq_true_iff]; refine ⟨by simp_all,?_⟩; omega) | (rw [decide_eq_decide]; constructor<;>intro hc<;>first | omega | exact ⟨by simp_all,by omega⟩)),rfl⟩
 refine xpG Z (xmf Z (xo Z (xo Z (xo Z (xo Z (xpF Z (xaf Z (dR ?_))))))))
 refine FQ.ret1 (v:=(.bool false)) (Bs:=[]) [] Z Z Z Zt ?_
 exact ⟨congrArg Value.bool (by first | (simp [*]; done) | (simp [*]; omega) | (rw [eq_comm,decide_eq_false_iff_not]; intro hc; obtain ⟨c1,c2,c3,c4,c5⟩:=hc; first | omega | (simp_all; done)) | (rw [eq_comm,decide_eq_true_iff]; refine ⟨by simp_all,?_⟩; omega) | (rw [decide_eq_decide]; constructor<;>intro hc<;>first | omega | exact ⟨by simp_all,by omega⟩)),rfl⟩
 refine xpG Z (xmf Z (xo Z (xo Z (xo Z (xo Z (xpF Z (xmf Z (xo Z ?_))))))))
 refine xo Z (xo Z (xo Z (xpF Z (xaf Z (dR ?_)))))
 refine FQ.ret1 (v:=(.bool false)) (Bs:=[]) [] Z Z Z Zt ?_
 exact ⟨congrArg Value.bool (by first | (simp [*]; done) | (simp [*]; omega) | (rw [eq_comm,decide_eq_false_iff_not]; intro hc; obtain ⟨c1,c2,c3,c4,c5⟩:=hc; first | omega | (simp_all; done)) | (rw [eq_comm,decide_eq_true_iff]; refine ⟨by simp_all,?_⟩; omega) | (rw [decide_eq_decide]; constructor<;>intro hc<;>first | omega | exact ⟨by simp_all,by omega⟩)),rfl⟩
 refine xpG Z (xmf Z (xo Z (xo Z (xo Z (xo Z (xpF Z (xmf Z (xo Z ?_))))))))
 refine xo Z (xo Z (xo Z (xpF Z (xmf Z (xo Z (xo Z (xo Z (xo Z ?_))))))))
 refine xpF Z (xaf Z (dR ?_))
 refine FQ.ret1 (v:=(.bool false)) (Bs:=[]) [] Z Z Z Zt ?_
 exact ⟨congrArg Value.bool (by first | (simp [*]; done) | (simp [*]; omega) | (rw [eq_comm,decide_eq_false_iff_not]; intro hc; obtain ⟨c1,c2,c3,c4,c5⟩:=hc; first | omega | (simp_all; done)) | (rw [eq_comm,decide_eq_true_iff]; refine ⟨by simp_all,?_⟩; omega) | (rw [decide_eq_decide]; constructor<;>intro hc<;>first | omega | exact ⟨by simp_all,by omega⟩)),rfl⟩
 refine xmf Z (xo Z (xo Z (xo Z (xo Z (xpF Z (xmf Z (xo Z (xo Z ?_))))))))
 refine xo Z (xo Z (xpF Z (xmf Z (xo Z (xo Z (xo Z (xo Z (xpF Z ?_))))))))
 refine xmf Z (xo Z (xo Z (xo Z (xo Z (xpF Z (xaf Z (dR ?_)))))))
 refine FQ.ret1 (v:=(.bool false)) (Bs:=[]) [] Z Z Z Zt ?_
 exact ⟨congrArg Value.bool (by first | (simp [*]; done) | (simp [*]; omega) | (rw [eq_comm,decide_eq_false_iff_not]; intro hc; obtain ⟨c1,c2,c3,c4,c5⟩:=hc; first | omega | (simp_all; done)) | (rw [eq_comm,decide_eq_true_iff]; refine ⟨by simp_all,?_⟩; omega) | (rw [decide_eq_decide]; constructor<;>intro hc<;>first | omega | exact ⟨by simp_all,by omega⟩)),rfl⟩
theorem zrg {l:Lay} (hl:l.Ok) {pb ab mb:Nat} {tg:Int} {av:Value} {σ:Array UInt64} {r:Int}:Go.Eng.Fn Tryz.prog 48 [.pointer (some ⟨pb,0,none⟩),.int .i64 r] [pt pb (.cells #[.int .i64 l.V,.int .i64 l.S,.int .i64 l.T,.pointer (some ⟨ab,0,none⟩),.int .i64 (tg),av] 57),zal ab mb 139 29 (σ)] (fun x Bs=>Bs=[pt pb (.cells #[.int .i64 l.V,.int .i64 l.S,.int .i64 l.T,.pointer (some ⟨ab,0,none⟩),.int .i64 (tg),av] 57),zal ab mb 139 29 (σ),rowS x (trA l (fun y=>zaK l σ y 2) r (l.nodes.toNat))]):=by
 have hnb:=zaB hl
 obtain ⟨N,hN⟩:∃ N:Nat,l.nodes=(N:Int):=⟨l.nodes.toNat,by omega⟩
 refine Fn.enter (Tryz.func48) Z Z (fun w0 R=>?_)
 refine sA (TL.asg (.slice none 0 0) Z Z Z (dA (TL.asg (.slice none 0 0) Z Z Z (dS (TC.seq (TC.nilA 2 (A:=ownA Tm.encI 1 3 (.slice none 0 0) #[]) (.inl ⟨Z,Z⟩) (TC.region (xai Z ?_))))))))
 refine dK (TC.loopK (X:=Nat×Value) [0,1,4] [0,1] (fun ⟨k,v⟩=>[(6,.int .i64 ((k+1:Nat):Int)),(5,v)]) (fun ⟨k,v⟩=>[(2,ownA Tm.encI 1 3 v (trA l (fun y=>zaK l σ y 2) r (k)))]) (fun ⟨k,v⟩=>(k:Int)<=l.nodes) (fun ⟨k,v⟩=>N - k) ((0,.slice none 0 0)) (by show ((0:Nat):Int)<=l.nodes; omega) ⟨Z,Z,Zt⟩ ⟨Z,Zt⟩ (fun y hI=>?_))
 obtain ⟨k,v⟩:=y
 replace hI:(k:Int)<=l.nodes:=hI
 refine TC.sub (env':=[(6,_),(5,_),(0,_),(1,_),(4,_)]) (L':=[(2,_),(0,_),(1,_)]) ⟨Z,Z,Z,Z,Z,Zt⟩ ⟨Z,Z,Z,Zt⟩ (sB (xmi Z (xmp Z (xN0 Z (xf 0 zaF Z (xL3 0 zab Z Z (xD [] (zdz hl) zgz Z (TL.leq Z Z Z Z (fun q1=>?_) (fun q1=>?_)))))))))
 refine TL.done (TQ.then (TC.condT Z (TC.skip (TQ.then (TC.seq (TC.block (sB (xmp Z ?_))))))))
 refine xN0 Z (xf 0 zaF Z (xL3 0 zab Z Z (xmi Z (xD [] (zfO hl) zik Z (xmu Z (TL.ext (.agg _) Z Z Z Z (TL.ext (.bool _) Z Z Z Z (TL.alloc 3 (cs:=#[.bool false,.int .i64 0,.int .i64 0,.int .i64 0,.int .i64 0]) zfB Z Z Z (fun _=>Zt) (fun bk3=>?_)))))))))
 refine TL.stW 3 5 [_,_,_,_,_] Z Z Z Z Z Z zcr Z Z Zt (xab Z (dA (xf 1 zeY Z (xli 3 zad Z Z (TL.neq Z Z Z Z (fun q2=>?_) (fun q2=>?_))))))
 refine TL.done (TQ.then (TC.condT Z (TC.exit (TQ.thenExit (TQ.blockHere (TQ.then (TC.region (xmi Z ?_))))))))
 refine TL.add (((k+2:Nat):Int)) Z Z (wrN (by omega)) Z Z (xai Z (TL.done (TQ.roundK ((k+1,_)) ⟨(show ((k+1:Nat):Int)<=l.nodes by omega),(show N - (k+1)<N - k by omega)⟩ ⟨Z,Z,Zt⟩ ⟨congrArg (fun z=>some (ownA Tm.encI 1 3 _ z)) (zxr (by assumption)),Zt⟩ (kE3 Z Z Z Zt) (kL2 Z Z Zt))))
 refine dF Z (xmi Z (xai Z (dB (xai Z (dK (TC.loopK (X:=Nat×Int) [0,1,4,5,6] [0,1,2,3] (fun ⟨n,x⟩=>[(10,.int .i64 ((n:Nat):Int)),(9,.int .i64 x)]) (fun ⟨n,x⟩=>[]) (fun ⟨n,x⟩=>n<=l.nodes.toNat+1/\wlk (fun y=>zaK l σ y 2) r (l.nodes.toNat+1 - n) x=wlk (fun y=>zaK l σ y 2) r (l.nodes.toNat+1) ((k+1:Nat):Int)) (fun ⟨n,x⟩=>l.nodes.toNat+1 - n) ((0,((k+1:Nat):Int))) ⟨Nat.zero_le _,Z⟩ ⟨Z,Z,Zt⟩ Zt (fun y hI=>?_)))))))
 obtain ⟨n,x⟩:=y
 obtain ⟨hn,hr⟩:=hI
 replace hn:n<=l.nodes.toNat+1:=hn
 replace hr:wlk (fun y=>zaK l σ y 2) r (l.nodes.toNat+1 - n) x=wlk (fun y=>zaK l σ y 2) r (l.nodes.toNat+1) ((k+1:Nat):Int):=hr
 refine TC.sub (env':=[(10,_),(9,_),(0,_),(1,_),(4,_),(5,_),(6,_)]) (L':=[(0,_),(1,_),(2,_),(3,_)]) ⟨Z,Z,Z,Z,Z,Z,Z,Zt⟩ ⟨Z,Z,Z,Z,Zt⟩ (sB (xmi Z (xmp Z (xN0 Z (xf 0 zaF Z (xL3 0 zab Z Z (xD [] (zdz hl) zgz Z (TL.leq Z Z Z Z (fun q3=>?_) (fun q3=>?_)))))))))
 refine xmt Z (xmi Z (xmi Z (TL.neq Z Z Z Z (fun q4=>?_) (fun q4=>?_))))
 refine xpT Z (TL.done (TQ.then (TC.condT Z (TC.skip (TQ.then (TC.seq (TC.block (sA ?_))))))))
 refine xmp Z (xmi Z (xD [0,1] (zgf hl) zpK Z (xai Z (dB (xmi Z (TL.eql Z Z Z Z (fun q5=>?_) (fun q5=>?_)))))))
 refine TL.done (TQ.then (TC.condT Z (TC.exit (TQ.thenExit (TQ.blockOut Z (TQ.thenExit (TQ.thenExit (TQ.blockHere ?_))))))))
 refine TQ.then (sA (xmi Z (xmi Z (TL.eql Z Z Z Z (fun q6=>?_) (fun q6=>?_)))))
 refine TL.done (TQ.then (TC.condT Z (TC.region (xmv Z (xmi Z (TL.bsN 4 [_] (Tm.encI ((k+1:Nat):Int)) zah zfT ⟨Z,Zt⟩ Z (lit1 Z) Z Z (fun bk4=>⟨Zt,?_⟩)))))))
 refine TL.appS 2 4 (d2:=#[((k+1:Nat):Int)]) Z (Z) Z (fun _=>Z) Z Z (row1 Z) zdA (by decide) zch (by have:=zmm (l:=l) (par:=(fun y=>zaK l σ y 2)) (r:=r) k; simp; omega) Z Z (fun v5=>⟨Zt,?_⟩)
 refine xav Z (dI (xmi Z (TL.add (((k+2:Nat):Int)) Z Z (wrN (by omega)) Z Z (xai Z (TL.done (TQ.roundK ((k+1,_)) ⟨(show ((k+1:Nat):Int)<=l.nodes by omega),(show N - (k+1)<N - k by omega)⟩ ⟨Z,Z,Zt⟩ ⟨congrArg (fun z=>some (ownA Tm.encI 1 3 _ z)) (by first | exact zhB (by omega) (zdL (by first | exact .inl (by omega) | exact .inr (.inl (by assumption)) | exact .inr (.inr (by omega))) hr) (by omega) | exact zki (zdL (by first | exact .inl (by omega) | exact .inr (.inl (by assumption)) | exact .inr (.inr (by omega))) hr) (by omega) | (exfalso; omega) | trace_state),Zt⟩ (kE3 Z Z Z Zt) (kL2 Z Z Zt)))))))
 refine TL.done (TQ.then (TC.condF Z (TC.skip (TQ.inBlock (TQ.then (TC.region (xmi Z (TL.add (((k+2:Nat):Int)) Z Z (wrN (by omega)) Z Z ?_))))))))
 refine xai Z (TL.done (TQ.roundK ((k+1,_)) ⟨(show ((k+1:Nat):Int)<=l.nodes by omega),(show N - (k+1)<N - k by omega)⟩ ⟨Z,Z,Zt⟩ ⟨congrArg (fun z=>some (ownA Tm.encI 1 3 _ z)) (by first | exact zhB (by omega) (zdL (by first | exact .inl (by omega) | exact .inr (.inl (by assumption)) | exact .inr (.inr (by omega))) hr) (by omega) | exact zki (zdL (by first | exact .inl (by omega) | exact .inr (.inl (by assumption)) | exact .inr (.inr (by omega))) hr) (by omega) | (exfalso; omega) | trace_state),Zt⟩ (kE3 Z Z Z Zt) (kL2 Z Z Zt)))
 refine TL.done (TQ.then (TC.condF Z (TC.skip (TQ.then (TC.region (xmi Z (xai Z (dI ?_))))))))
 refine xmi Z (TL.add (((n+1:Nat):Int)) Z Z (wrN (by omega)) Z Z (xai Z (TL.done (TQ.roundK ((n+1,_)) ⟨⟨(show n+1<=l.nodes.toNat+1 by omega),zuL (by omega) (by omega) (by assumption) hr⟩,(show l.nodes.toNat+1 - (n+1)<l.nodes.toNat+1 - n by omega)⟩ ⟨Z,Z,Zt⟩ Zt (kE5 Z Z Z Z Z Zt) (kL4 Z Z Z Z Zt)))))
 refine xpG Z (dE Z (sA (xmi Z (xmi Z (TL.eql Z Z Z Z (fun q5=>?_) (fun q5=>?_))))))
 refine TL.done (TQ.then (TC.condT Z (TC.region (xmv Z (xmi Z (TL.bsN 6 [_] (Tm.encI ((k+1:Nat):Int)) zah zfT ⟨Z,Zt⟩ Z (lit1 Z) Z Z (fun bk6=>⟨Zt,?_⟩)))))))
 refine TL.appS 2 6 (d2:=#[((k+1:Nat):Int)]) Z (Z) Z (fun _=>Z) Z Z (row1 Z) zdA (by decide) zch (by have:=zmm (l:=l) (par:=(fun y=>zaK l σ y 2)) (r:=r) k; simp; omega) Z Z (fun v7=>⟨Zt,?_⟩)
 refine xav Z (dI (xmi Z (TL.add (((k+2:Nat):Int)) Z Z (wrN (by omega)) Z Z (xai Z (TL.done (TQ.roundK ((k+1,_)) ⟨(show ((k+1:Nat):Int)<=l.nodes by omega),(show N - (k+1)<N - k by omega)⟩ ⟨Z,Z,Zt⟩ ⟨congrArg (fun z=>some (ownA Tm.encI 1 3 _ z)) (by first | exact zhB (by omega) (zdL (by first | exact .inl (by omega) | exact .inr (.inl (by assumption)) | exact .inr (.inr (by omega))) hr) (by omega) | exact zki (zdL (by first | exact .inl (by omega) | exact .inr (.inl (by assumption)) | exact .inr (.inr (by omega))) hr) (by omega) | (exfalso; omega) | trace_state),Zt⟩ (kE3 Z Z Z Zt) (kL2 Z Z Zt)))))))
 refine TL.done (TQ.then (TC.condF Z (TC.skip (TQ.inBlock (TQ.then (TC.region (xmi Z (TL.add (((k+2:Nat):Int)) Z Z (wrN (by omega)) Z Z ?_))))))))
 refine xai Z (TL.done (TQ.roundK ((k+1,_)) ⟨(show ((k+1:Nat):Int)<=l.nodes by omega),(show N - (k+1)<N - k by omega)⟩ ⟨Z,Z,Zt⟩ ⟨congrArg (fun z=>some (ownA Tm.encI 1 3 _ z)) (by first | exact zhB (by omega) (zdL (by first | exact .inl (by omega) | exact .inr (.inl (by assumption)) | exact .inr (.inr (by omega))) hr) (by omega) | exact zki (zdL (by first | exact .inl (by omega) | exact .inr (.inl (by assumption)) | exact .inr (.inr (by omega))) hr) (by omega) | (exfalso; omega) | trace_state),Zt⟩ (kE3 Z Z Z Zt) (kL2 Z Z Zt)))
 refine xmf Z (xo Z (xo Z (xo Z (xpF Z (dE Z (sA (xmi Z (xmi Z ?_))))))))
 refine TL.eql Z Z Z Z (fun q4=>?_) (fun q4=>?_)
 refine TL.done (TQ.then (TC.condT Z (TC.region (xmv Z (xmi Z (TL.bsN 8 [_] (Tm.encI ((k+1:Nat):Int)) zah zfT ⟨Z,Zt⟩ Z (lit1 Z) Z Z (fun bk8=>⟨Zt,?_⟩)))))))
 refine TL.appS 2 8 (d2:=#[((k+1:Nat):Int)]) Z (Z) Z (fun _=>Z) Z Z (row1 Z) zdA (by decide) zch (by have:=zmm (l:=l) (par:=(fun y=>zaK l σ y 2)) (r:=r) k; simp; omega) Z Z (fun v9=>⟨Zt,?_⟩)
 refine xav Z (dI (xmi Z (TL.add (((k+2:Nat):Int)) Z Z (wrN (by omega)) Z Z (xai Z (TL.done (TQ.roundK ((k+1,_)) ⟨(show ((k+1:Nat):Int)<=l.nodes by omega),(show N - (k+1)<N - k by omega)⟩ ⟨Z,Z,Zt⟩ ⟨congrArg (fun z=>some (ownA Tm.encI 1 3 _ z)) (by first | exact zhB (by omega) (zdL (by first | exact .inl (by omega) | exact .inr (.inl (by assumption)) | exact .inr (.inr (by omega))) hr) (by omega) | exact zki (zdL (by first | exact .inl (by omega) | exact .inr (.inl (by assumption)) | exact .inr (.inr (by omega))) hr) (by omega) | (exfalso; omega) | trace_state),Zt⟩ (kE3 Z Z Z Zt) (kL2 Z Z Zt)))))))
 refine TL.done (TQ.then (TC.condF Z (TC.skip (TQ.inBlock (TQ.then (TC.region (xmi Z (TL.add (((k+2:Nat):Int)) Z Z (wrN (by omega)) Z Z ?_))))))))
 refine xai Z (TL.done (TQ.roundK ((k+1,_)) ⟨(show ((k+1:Nat):Int)<=l.nodes by omega),(show N - (k+1)<N - k by omega)⟩ ⟨Z,Z,Zt⟩ ⟨congrArg (fun z=>some (ownA Tm.encI 1 3 _ z)) (by first | exact zhB (by omega) (zdL (by first | exact .inl (by omega) | exact .inr (.inl (by assumption)) | exact .inr (.inr (by omega))) hr) (by omega) | exact zki (zdL (by first | exact .inl (by omega) | exact .inr (.inl (by assumption)) | exact .inr (.inr (by omega))) hr) (by omega) | (exfalso; omega) | trace_state),Zt⟩ (kE3 Z Z Z Zt) (kL2 Z Z Zt)))
 refine dE Z (sA (xmv Z (xav Z (dR ?_))))
 obtain rfl:k=l.nodes.toNat:=by omega
 refine TQ.conseq 2 (B:=rowS _ (trA l (fun y=>zaK l σ y 2) r (l.nodes.toNat))) Z (fun _ h=>zev h) ?_
 refine FQ.ret1 (v:=_) (Bs:=[_,_,_]) [0,1,2] Z Z Z ⟨Z,Z,Z,Zt⟩ ?_
 rfl
set_option maxHeartbeats 1000000 in
theorem zmS {l:Lay} (hl:l.Ok) {pb ab mb:Nat} {tg:Int} {av:Value} {σ:Array UInt64} {bp:Nat}:Go.Eng.Fn Tryz.prog 47 [.pointer (some ⟨bp,0,none⟩)] [pt pb (.cells #[.int .i64 l.V,.int .i64 l.S,.int .i64 l.T,.pointer (some ⟨ab,0,none⟩),.int .i64 (tg),av] 57),zal ab mb 139 29 (σ),pt bp (.cells #[.pointer (some ⟨pb,0,none⟩)] 46)] (fun r Bs=>∃ x1 x2 s,r=.tuple #[x1,x2]/\s.size=l.nodes.toNat+1/\Bs=[pt pb (.cells #[.int .i64 l.V,.int .i64 l.S,.int .i64 l.T,.pointer (some ⟨ab,0,none⟩),.int .i64 (tg),av] 57),zal ab mb 139 29 (σ),pt bp (.cells #[.pointer (some ⟨pb,0,none⟩)] 46),rowS x1 (vrA l σ (l.nodes.toNat+1)),ownA zfX 1 48 x2 (s),bigA (zdj (s) (fun j:Nat=>zbr l (σ) (j:Int))) (l.nodes.toNat+1)]):=by
 have hnb:=zaB hl
 obtain ⟨N,hN⟩:∃ N:Nat,l.nodes=(N:Int):=⟨l.nodes.toNat,by omega⟩
 refine Fn.enter (Tryz.func47) Z Z (fun w0 R=>?_)
 refine sA (TL.asg (.slice none 0 0) Z Z Z (TL.asg (.slice none 0 0) Z Z Z (dA (TL.asg (.slice none 0 0) Z Z Z (dA (TL.asg (.slice none 0 0) Z Z Z (dS (TC.seq ?_))))))))
 refine TC.nilA 3 (A:=ownA Tm.encI 1 3 (.slice none 0 0) #[]) (.inl ⟨Z,Z⟩) (TC.nilA 4 (A:=ownA zfX 1 48 (.slice none 0 0) (#[])) (.inl ⟨Z,Z⟩) (TC.nilA 5 (A:=bigA (zdj (#[]) (fun j:Nat=>zbr l (σ) (j:Int))) (0)) zni (TC.region (xai Z (dK ?_)))))
 refine TC.loopK (X:=Nat×Value×Value×Array (Option Addr×Nat×Nat)) [0,1,2] [0,1,2] (fun ⟨k,v,w,s⟩=>[(5,.int .i64 ((k:Nat):Int)),(3,v),(4,w)]) (fun ⟨k,v,w,s⟩=>[(3,ownA Tm.encI 1 3 v (vrA l σ k)),(4,ownA zfX 1 48 w (s)),(5,bigA (zdj (s) (fun j:Nat=>zbr l (σ) (j:Int))) (k))]) (fun ⟨k,v,w,s⟩=>(k:Int)<=l.nodes+1/\s.size=k) (fun ⟨k,v,w,s⟩=>N+1 - k) ((0,.slice none 0 0,.slice none 0 0,#[])) ⟨(by show ((0:Nat):Int)<=l.nodes+1; omega),Z⟩ ⟨Z,Z,Z,Zt⟩ ⟨Z,Z,Z,Zt⟩ (fun y hI=>?_)
 obtain ⟨k,v,w,s⟩:=y
 obtain ⟨hkn,hsz⟩:=hI
 replace hkn:(k:Int)<=l.nodes+1:=hkn
 replace hsz:s.size=k:=hsz
 refine TC.sub (env':=[(5,_),(3,_),(4,_),(0,_),(1,_),(2,_)]) (L':=[(3,_),(4,_),(5,_),(0,_),(1,_),(2,_)]) ⟨Z,Z,Z,Z,Z,Z,Zt⟩ ⟨Z,Z,Z,Z,Z,Z,Zt⟩ (sB (xmi Z (xlp 2 zig Z Z (xN0 Z (xf 0 zaF Z (xL3 0 zab Z Z (xD [] (zdz hl) zgz Z (TL.leq Z Z Z Z (fun q1=>?_) (fun q1=>?_)))))))))
 refine TL.done (TQ.then (TC.condT Z (TC.skip (TQ.then (TC.seq (TC.block (sA (xlp 2 zig Z Z ?_))))))))
 refine xN0 Z (xf 0 zaF Z (xL3 0 zab Z Z (xmi Z (xD [] (zfO hl) zik Z (xmu Z (TL.ext (.agg _) Z Z Z Z (TL.ext (.bool _) Z Z Z Z (TL.alloc 6 (cs:=#[.bool false,.int .i64 0,.int .i64 0,.int .i64 0,.int .i64 0]) zfB Z Z Z (fun _=>Zt) (fun bk6=>?_)))))))))
 refine TL.stW 6 5 [_,_,_,_,_] rfl rfl rfl rfl rfl rfl zcr rfl rfl trivial (xab rfl (dB (xmb rfl (TL.cases rfl (fun q2=>?_) (fun q2=>?_)))))
 refine xnt Z (xmf Z (xf 1 zeY Z (xli 6 zad Z Z (TL.neq Z Z Z Z (fun q3=>?_) (fun q3=>?_)))))
 refine xpH Z (dT Z (xmv Z (TL.bsN 7 [_] (Tm.encI 0) zah zfT ⟨Z,Zt⟩ Z (lit1 Z) Z Z (fun bk7=>⟨Zt,?_⟩))))
 refine TL.appS 3 7 (d2:=#[(0:Int)]) Z (Z) Z (fun _=>Z) Z Z (row1 Z) zdA (by decide) zch (by rw [zdX]; simp; omega) Z Z (fun v8=>⟨Zt,?_⟩)
 refine xmv Z (TL.bsN 9 [_] (zfX (none,0,0)) zdn zm7 ⟨Z,Zt⟩ Z (lit1 Z) Z Z (fun bk9=>⟨Zt,?_⟩))
 refine TL.appS 4 9 (d2:=#[(none,0,0)]) Z (Z) Z (fun _=>Z) Z Z (row1 Z) zhs (by decide) zfm (by simp; omega) Z Z (fun v10=>⟨Zt,?_⟩)
 refine xav Z (xav Z (TL.done (TQ.then (TC.exit (TQ.thenExit (TQ.blockHere (TQ.then (TC.nilA 11 (A:=rowS (.slice none 0 0) #[]) za2 ?_))))))))
 refine TC.bigP 5 11 (zdj (s++#[(none,0,0)]) (fun j:Nat=>zbr l (σ) (j:Int))) Z Z (by decide) (zcY (x:=(none,0,0)) (t:=fun j:Nat=>zbr l (σ) (j:Int)) hsz (zf7 (fun c=>absurd (of_decide_eq_true c.1.2) (by assumption)))).1 (zcY (x:=(none,0,0)) (t:=fun j:Nat=>zbr l (σ) (j:Int)) hsz (zf7 (fun c=>absurd (of_decide_eq_true c.1.2) (by assumption)))).2 (TC.region (xmi Z (TL.add (((k+1:Nat):Int)) Z Z (wrN (by omega)) Z Z (xai Z (TL.done ?_)))))
 refine TQ.roundK ((k+1,_,_,s++#[(none,0,0)])) ⟨⟨(show ((k+1:Nat):Int)<=l.nodes+1 by omega),by rw [Array.size_append,hsz]; rfl⟩,(show N+1 - (k+1)<N+1 - k by omega)⟩ ⟨Z,Z,Z,Zt⟩ ⟨congrArg (fun z=>some (ownA Tm.encI 1 3 _ z)) (by rw [vrA]; exact congrArg (fun z=>vrA l σ k++#[z]) (zrc (fun c=>absurd (of_decide_eq_true c.2) (by assumption)))),Z,Z,Zt⟩ (kE3 Z Z Z Zt) (kL3 Z Z Z Zt)
 refine xpF Z (dF Z (xmv Z (xlp 2 zig Z Z (xmi Z (xD [0,1] (zgf hl) zpK Z (TL.bsN 12 [_] (Tm.encI (zaK l σ (k:Int) 1)) zah zfT ⟨Z,Zt⟩ Z (lit1 Z) Z Z (fun bk12=>⟨Zt,?_⟩)))))))
 refine TL.appS 3 12 (d2:=#[zaK l σ (k:Int) 1]) Z (Z) Z (fun _=>Z) Z Z (row1 Z) zdA (by decide) zch (by rw [zdX]; simp; omega) Z Z (fun v13=>⟨Zt,?_⟩)
 refine xav Z (dA (xlp 2 zig Z Z (xmi Z (xD [0,1] (zgf hl) zpK Z (TL.eql Z Z Z Z (fun q4=>?_) (fun q4=>?_))))))
 refine TL.done (TQ.then (TC.condT Z (TC.region (xmv Z (xlp 2 zig Z Z (xmi Z (TL.call [0,1] [0,1,14] (zrg hl) ⟨Z,Z,Zt⟩ ⟨Z,Z,Zt⟩ zAL Z Z Z Z ?_)))))))
 rintro x Bs rfl
 refine ⟨Z,Zt,?_⟩
 rw [zre (l:=l) (σ:=σ) (x:=(k:Int)) ⟨⟨(zhI hl (k:=k) (by omega)).1 (by assumption),decide_eq_true (by omega)⟩,by assumption⟩]
 refine TL.rowS 14 Z (fun a7 b7 o7 c7 hv7 hc7 ha7=>⟨Zt,?_⟩)
 cases hv7
 refine TL.bsN 15 [_] (zfX (a7,(zbr l σ (k:Int)).size,c7)) zdn zm7 ⟨Z,Zt⟩ Z (lit1 Z) Z Z (fun bk15=>⟨Zt,?_⟩)
 refine TL.appS 4 15 (d2:=#[(a7,(zbr l σ (k:Int)).size,c7)]) Z (Z) Z (fun _=>Z) Z Z (row1 Z) zhs (by decide) zfm (by simp; omega) Z Z (fun v16=>⟨Zt,?_⟩)
 refine xav Z (TL.done (TQ.inBlock (TQ.then (TC.bigP 5 14 (zdj (s++#[(a7,(zbr l σ (k:Int)).size,c7)]) (fun j:Nat=>zbr l (σ) (j:Int))) Z Z (by decide) (fun h hh=>(zcY (x:=(a7,(zbr l σ (k:Int)).size,c7)) (t:=fun j:Nat=>zbr l (σ) (j:Int)) hsz Z).1 h ⟨_,_,_,_,Z,hc7,ha7,hh⟩) (zcY (x:=(a7,(zbr l σ (k:Int)).size,c7)) (t:=fun j:Nat=>zbr l (σ) (j:Int)) (A:=zbr l σ (k:Int)) hsz Z).2 (TC.region (xmi Z (TL.add (((k+1:Nat):Int)) Z Z (wrN (by omega)) Z Z (xai Z ?_))))))))
 refine TL.done (TQ.roundK ((k+1,_,_,s++#[(a7,(zbr l σ (k:Int)).size,c7)])) ⟨⟨(show ((k+1:Nat):Int)<=l.nodes+1 by omega),by rw [Array.size_append,hsz]; rfl⟩,(show N+1 - (k+1)<N+1 - k by omega)⟩ ⟨Z,Z,Z,Zt⟩ ⟨congrArg (fun z=>some (ownA Tm.encI 1 3 _ z)) (by rw [vrA]; exact congrArg (fun z=>vrA l σ k++#[z]) (zoN ⟨(zhI hl (k:=k) (by omega)).1 (by assumption),decide_eq_true (by omega)⟩)),Z,Z,Zt⟩ (kE3 Z Z Z Zt) (kL3 Z Z Z Zt))
 refine TL.done (TQ.then (TC.condF Z (TC.region (xmv Z (TL.bsN 17 [_] (zfX (none,0,0)) zdn zm7 ⟨Z,Zt⟩ Z (lit1 Z) Z Z (fun bk17=>⟨Zt,?_⟩))))))
 refine TL.appS 4 17 (d2:=#[(none,0,0)]) Z (Z) Z (fun _=>Z) Z Z (row1 Z) zhs (by decide) zfm (by simp; omega) Z Z (fun v18=>⟨Zt,?_⟩)
 refine xav Z (TL.done (TQ.inBlock (TQ.then (TC.nilA 19 (A:=rowS (.slice none 0 0) #[]) za2 (TC.bigP 5 19 (zdj (s++#[(none,0,0)]) (fun j:Nat=>zbr l (σ) (j:Int))) Z Z (by decide) (zcY (x:=(none,0,0)) (t:=fun j:Nat=>zbr l (σ) (j:Int)) hsz (zf7 (fun c=>absurd c.2 (by assumption)))).1 (zcY (x:=(none,0,0)) (t:=fun j:Nat=>zbr l (σ) (j:Int)) hsz (zf7 (fun c=>absurd c.2 (by assumption)))).2 (TC.region (xmi Z (TL.add (((k+1:Nat):Int)) Z Z (wrN (by omega)) Z Z ?_))))))))
 refine xai Z (TL.done (TQ.roundK ((k+1,_,_,s++#[(none,0,0)])) ⟨⟨(show ((k+1:Nat):Int)<=l.nodes+1 by omega),by rw [Array.size_append,hsz]; rfl⟩,(show N+1 - (k+1)<N+1 - k by omega)⟩ ⟨Z,Z,Z,Zt⟩ ⟨congrArg (fun z=>some (ownA Tm.encI 1 3 _ z)) (by rw [vrA]; exact congrArg (fun z=>vrA l σ k++#[z]) (zoN ⟨(zhI hl (k:=k) (by omega)).1 (by assumption),decide_eq_true (by omega)⟩)),Z,Z,Zt⟩ (kE3 Z Z Z Zt) (kL3 Z Z Z Zt)))
 refine xnf Z (xmt Z (xo Z (xo Z (xo Z (xpT Z (dT Z (xmv Z (TL.bsN 20 [_] (Tm.encI 0) zah zfT ⟨Z,Zt⟩ Z (lit1 Z) Z Z (fun bk20=>⟨Zt,?_⟩)))))))))
 refine TL.appS 3 20 (d2:=#[(0:Int)]) Z (Z) Z (fun _=>Z) Z Z (row1 Z) zdA (by decide) zch (by rw [zdX]; simp; omega) Z Z (fun v21=>⟨Zt,?_⟩)
 refine xmv Z (TL.bsN 22 [_] (zfX (none,0,0)) zdn zm7 ⟨Z,Zt⟩ Z (lit1 Z) Z Z (fun bk22=>⟨Zt,?_⟩))
 refine TL.appS 4 22 (d2:=#[(none,0,0)]) Z (Z) Z (fun _=>Z) Z Z (row1 Z) zhs (by decide) zfm (by simp; omega) Z Z (fun v23=>⟨Zt,?_⟩)
 refine xav Z (xav Z (TL.done (TQ.then (TC.exit (TQ.thenExit (TQ.blockHere (TQ.then (TC.nilA 24 (A:=rowS (.slice none 0 0) #[]) za2 ?_))))))))
 refine TC.bigP 5 24 (zdj (s++#[(none,0,0)]) (fun j:Nat=>zbr l (σ) (j:Int))) Z Z (by decide) (zcY (x:=(none,0,0)) (t:=fun j:Nat=>zbr l (σ) (j:Int)) hsz (zf7 (fun c=>by have:=(zhI hl (k:=k) (by omega)).2 c.1.1; simp_all))).1 (zcY (x:=(none,0,0)) (t:=fun j:Nat=>zbr l (σ) (j:Int)) hsz (zf7 (fun c=>by have:=(zhI hl (k:=k) (by omega)).2 c.1.1; simp_all))).2 (TC.region (xmi Z (TL.add (((k+1:Nat):Int)) Z Z (wrN (by omega)) Z Z (xai Z (TL.done ?_)))))
 refine TQ.roundK ((k+1,_,_,s++#[(none,0,0)])) ⟨⟨(show ((k+1:Nat):Int)<=l.nodes+1 by omega),by rw [Array.size_append,hsz]; rfl⟩,(show N+1 - (k+1)<N+1 - k by omega)⟩ ⟨Z,Z,Z,Zt⟩ ⟨congrArg (fun z=>some (ownA Tm.encI 1 3 _ z)) (by rw [vrA]; exact congrArg (fun z=>vrA l σ k++#[z]) (zrc (fun c=>by have:=(zhI hl (k:=k) (by omega)).2 c.1; simp_all))),Z,Z,Zt⟩ (kE3 Z Z Z Zt) (kL3 Z Z Z Zt)
 refine dE Z (sA (xmv Z (xmv Z (xav Z (xav Z (dR ?_))))))
 obtain rfl:k=l.nodes.toNat+1:=by omega
 refine TQ.conseq 3 (B:=rowS _ (vrA l σ (l.nodes.toNat+1))) Z (fun _ h=>zev h) ?_
 refine FQ.ret2 (v:=_) (x:=_) (Bs:=[_,_,_,_,_,_]) [0,1,2,3,4,5] Z Z Z Z ⟨Z,Z,Z,Z,Z,Z,Zt⟩ ?_
 exact ⟨_,_,s,Z,hsz,Z⟩
set_option maxHeartbeats 2000000 in
theorem zuU {l:Lay} (hl:l.Ok) {pb ab mb:Nat} {pr:Int->Int} {k:Nat} {m:Array UInt64} {tg:Int} {g:G} {d:Array EdR} {P:PlanS} {u v s:Int} {g2:G} {d2:Array EdR} (hk:k<=24) (hP:P19 l pr k m tg g d) (hC:Cl19 l pr k m tg g d P u v s g2 d2) {xa:Option Addr} {xc:Nat} {ya:Option Addr} {yc:Nat} {va v2:Value} {n:Nat} (hn:n<=P.work.size) {bp bl bv bt:Nat} {wv tv:Value} {dw:Array Int} {sx:Array (Option Addr×Nat×Nat)} {tx:Nat->Array Int} (hK:zoG l (zar l m u v) (n) dw sx tx):Go.Eng.Fn Tryz.prog 49 [.agg #[.slice xa (P).work.size xc,.int .i64 P.point,.bool P.tree,.slice ya (P).roots.size yc],va,.int .i64 ((n:Nat):Int),.pointer (some ⟨bl,0,none⟩),.pointer (some ⟨bv,0,none⟩),.pointer (some ⟨bt,0,none⟩)] [pt pb (.cells #[.int .i64 l.V,.int .i64 l.S,.int .i64 l.T,.pointer (some ⟨ab,0,none⟩),.int .i64 (tg),v2] 57),zal ab mb 139 29 (runA (zar l m u v) P.work (n)),ownA encE 5 80 v2 d2,ownA zav 3 34 (.slice xa (P).work.size xc) (P.work),rowS (.slice ya (P).roots.size yc) P.roots,rowS va (zbM l m u v),pt bp (.cells #[.pointer (some ⟨pb,0,none⟩)] 46),pt bl (.cells #[.func (.func 47) #[] #[.pointer (some ⟨bp,0,none⟩)]] 86),pt bv (.cells #[wv] 48),pt bt (.cells #[tv] 84),rowS wv dw,star (ownA zfX 1 48 tv (sx)) (bigA (zdj sx tx) sx.size)] (fun r Bs=>r=.bool true/\∃ wv2 tv2 dw2 sx2 tx2,Bs=[pt pb (.cells #[.int .i64 l.V,.int .i64 l.S,.int .i64 l.T,.pointer (some ⟨ab,0,none⟩),.int .i64 (tg),v2] 57),zal ab mb 139 29 (runA (zar l m u v) P.work (n)),ownA encE 5 80 v2 d2,ownA zav 3 34 (.slice xa (P).work.size xc) (P.work),rowS (.slice ya (P).roots.size yc) P.roots,rowS va (zbM l m u v),pt bp (.cells #[.pointer (some ⟨pb,0,none⟩)] 46),pt bl (.cells #[.func (.func 47) #[] #[.pointer (some ⟨bp,0,none⟩)]] 86),pt bv (.cells #[wv2] 48),pt bt (.cells #[tv2] 84),rowS wv2 dw2,star (ownA zfX 1 48 tv2 (sx2)) (bigA (zdj sx2 tx2) sx2.size)]/\zoG l (zar l m u v) (n+1) dw2 sx2 tx2):=by
 have hb:=zdP hl
 have hT:1<=l.T:=by omega
 have hnb:=zaB hl
 refine Fn.enter (Tryz.func49) Z Z (fun w0 R=>?_)
 refine sA (xB 12 Z (fun bk12=>(xaf Z (dB (xmi Z (TL.eql Z Z Z Z (fun q1=>?_) (fun q1=>?_)))))))
 refine TL.done (TQ.then (TC.condT Z ?_))
 obtain rfl:n=0:=by omega
 refine TC.region (xlv 7 zs5 Z Z (TL.callCF (c1:=[]) (c2:=[.pointer (some ⟨bp,0,none⟩)]) (vs:=[]) [0,1,6] [0,1,6,13,14,15] Z (zmS hl) Zt ⟨Z,Z,Z,Zt⟩ zwZ Z Z Z Z ?_))
 rintro r9 Bs ⟨x1,x2,s9,rfl,hs9,rfl⟩
 refine ⟨Z,Zt,?_⟩
 refine TL.rowS 13 Z (fun a7 b7 o7 c7 hv7 hc7 ha7=>⟨Zt,?_⟩)
 cases hv7
 refine TL.ownW 14 Z (fun a6 g6 c6 hv6 hc6 ha6=>?_)
 cases hv6
 refine xmu Z (xes Z Z (xes Z Z (TL.st 8 #[_] (.slice _ _ _) Z Z Z Z Z Z zeU Z Z Zt (TL.st 9 #[_] (.slice _ _ _) Z Z Z Z Z Z zwS Z Z Zt (dS (TC.conseq 13 (B:=rowS (.slice a7 _ c7) (vrA l (runA (zar l m u v) P.work (0)) (l.nodes.toNat+1))) Z (fun _ h=>⟨_,_,_,_,Z,hc7,ha7,h⟩) ?_))))))
 rw [<-hs9]
 refine TC.starC 14 15 Z Z (by decide) (TC.region (xat Z (dR ?_)))
 refine FQ.ret1 (v:=(.bool true)) (Bs:=[_,_,_,_,_,_,_,_,_,_,_,_]) [0,1,2,3,4,5,6,7,8,9,13,14] Z Z Z ⟨Z,Z,Z,Z,Z,Z,Z,Z,Z,Z,Z,Z,Zt⟩ ?_
 first | exact ⟨rfl,_,_,_,_,_,rfl,hK.next hn0⟩ | exact ⟨rfl,_,_,_,_,_,rfl,.inr ⟨by rw [<-hs9]; rfl,rfl,hs9⟩⟩
 refine TL.done (TQ.then (TC.condF Z (TC.skip (TQ.then (TC.seq ?_)))))
 have hn0:¬(n:Int)=0:=by assumption
 refine TC.region (xat Z (dR ?_))
 refine FQ.ret1 (v:=(.bool true)) (Bs:=[_,_,_,_,_,_,_,_,_,_,_,_]) [0,1,2,3,4,5,6,7,8,9,10,11] Z Z Z ⟨Z,Z,Z,Z,Z,Z,Z,Z,Z,Z,Z,Z,Zt⟩ ?_
 first | exact ⟨rfl,_,_,_,_,_,rfl,hK.next hn0⟩ | exact ⟨rfl,_,_,_,_,_,rfl,.inr ⟨by rw [<-hs9]; rfl,rfl,hs9⟩⟩
set_option maxHeartbeats 2000000 in
theorem zuT {l:Lay} (hl:l.Ok) {pb ab mb:Nat} {pr:Int->Int} {k:Nat} {m:Array UInt64} {tg:Int} {g:G} {d:Array EdR} {P:PlanS} {u v s:Int} {g2:G} {d2:Array EdR} (hk:k<=24) (hP:P19 l pr k m tg g d) (hC:Cl19 l pr k m tg g d P u v s g2 d2) {xa:Option Addr} {xc:Nat} {ya:Option Addr} {yc:Nat} {va v2:Value} {bp bl bv bt:Nat} {wv tv:Value} {dw:Array Int} {sx:Array (Option Addr×Nat×Nat)} {tx:Nat->Array Int} (hK:zoG l (zar l m u v) (P.work.size+1) dw sx tx):FnD Tryz.prog 50 [.agg #[.slice xa (P).work.size xc,.int .i64 P.point,.bool P.tree,.slice ya (P).roots.size yc],va,.pointer (some ⟨bl,0,none⟩),.pointer (some ⟨bv,0,none⟩),.pointer (some ⟨bt,0,none⟩)] [pt pb (.cells #[.int .i64 l.V,.int .i64 l.S,.int .i64 l.T,.pointer (some ⟨ab,0,none⟩),.int .i64 (tg),v2] 57),zal ab mb 139 29 (runM (zar l m u v) P.work.toList),ownA encE 5 80 v2 d2,ownA zav 3 34 (.slice xa (P).work.size xc) (P.work),rowS (.slice ya (P).roots.size yc) P.roots,rowS va (zbM l m u v),pt bp (.cells #[.pointer (some ⟨pb,0,none⟩)] 46),pt bl (.cells #[.func (.func 47) #[] #[.pointer (some ⟨bp,0,none⟩)]] 86),pt bv (.cells #[wv] 48),pt bt (.cells #[tv] 84),rowS wv dw,star (ownA zfX 1 48 tv (sx)) (bigA (zdj sx tx) sx.size)] (.bool true) [pt pb (.cells #[.int .i64 l.V,.int .i64 l.S,.int .i64 l.T,.pointer (some ⟨ab,0,none⟩),.int .i64 (tg),v2] 57),zal ab mb 139 29 (runM (zar l m u v) P.work.toList),ownA encE 5 80 v2 d2,ownA zav 3 34 (.slice xa (P).work.size xc) (P.work),rowS (.slice ya (P).roots.size yc) P.roots,rowS va (zbM l m u v),pt bp (.cells #[.pointer (some ⟨pb,0,none⟩)] 46),pt bl (.cells #[.func (.func 47) #[] #[.pointer (some ⟨bp,0,none⟩)]] 86),pt bv (.cells #[wv] 48),pt bt (.cells #[tv] 84),rowS wv dw,star (ownA zfX 1 48 tv (sx)) (bigA (zdj sx tx) sx.size)]:=by
 have hb:=zdP hl
 have hT:1<=l.T:=by omega
 have hnb:=zaB hl
 refine Fn.enter (Tryz.func50) Z Z (fun w0 R=>?_)
 refine TC.seq ?_
 rcases hK with h9 | ⟨rfl,rfl,hsx⟩
 ·omega
 refine TC.rowS 10 Z (fun a3 b3 o3 e3 hv3 hc3 ha3=>?_)
 subst hv3
 refine TC.starO 11 12 Z (by decide) (TC.ownW 11 Z (fun a4 g4 c4 hv4 hc4 ha4=>?_))
 subst hv4
 refine TC.region (xB 13 Z (fun bk13=>(xaf Z (dA (xlv 7 zs5 Z Z (TL.callCF (c1:=[]) (c2:=[.pointer (some ⟨bp,0,none⟩)]) (vs:=[]) [0,1,6] [0,1,6,14,15,16] Z (zmS hl) Zt ⟨Z,Z,Z,Zt⟩ zwZ Z Z Z Z ?_))))))
 rintro r9 Bs ⟨x1,x2,s9,rfl,hs9,rfl⟩
 refine ⟨Z,Zt,?_⟩
 refine TL.rowS 14 Z (fun a7 b7 o7 c7 hv7 hc7 ha7=>⟨Zt,?_⟩)
 cases hv7
 refine TL.ownW 15 Z (fun a6 g6 c6 hv6 hc6 ha6=>?_)
 cases hv6
 refine xmu Z (xes Z Z (xes Z Z (xas Z (xas Z (dB (xms Z (xz zah Z (xmi Z ?_))))))))
 refine dK (TC.loopK (X:=Nat) [3,4,5,8,9,18] [0,1,2,3,4,5,6,7,8,9,10,11,12,13,14,15,16] (fun i=>[(19,.int .i64 ((i:Nat):Int))]) (fun i=>[]) (fun i=>i<=l.nodes.toNat+1) (fun i=>l.nodes.toNat+1 - i) (0) (Nat.zero_le _) ⟨Z,Zt⟩ Zt (fun i hI=>?_))
 replace hI:i<=l.nodes.toNat+1:=hI
 have z1:=zdX (l:=l) (σ:=runM (zar l m u v) P.work.toList) (l.nodes.toNat+1)
 refine TC.sub (env':=[(19,_),(3,_),(4,_),(5,_),(8,_),(9,_),(18,_)]) (L':=[(0,_),(1,_),(2,_),(3,_),(4,_),(5,_),(6,_),(7,_),(8,_),(9,_),(10,_),(11,_),(12,_),(13,_),(14,_),(15,_),(16,_)]) ⟨Z,Z,Z,Z,Z,Z,Z,Zt⟩ ⟨Z,Z,Z,Z,Z,Z,Z,Z,Z,Z,Z,Z,Z,Z,Z,Z,Z,Zt⟩ (sA (TL.lss Z Z Z Z (fun q1=>?_) (fun q1=>?_)))
 refine dS (TC.condT Z (TC.skip (TQ.then (TC.seq (TC.block (sA (xmi Z (xai Z ?_))))))))
 refine dS ?_
 obtain ⟨hv1,hv2⟩:=hC.vtree hl hP hT (by omega) (i:Int)
 rw [ziy] at hv1 hv2
 have z1:=zdX (l:=l) (σ:=runM (zar l m u v) P.work.toList) (l.nodes.toNat+1)
 have z2:=zdX (l:=l) (σ:=(zar l m u v)) (l.nodes.toNat+1)
 have e1:=zns (l:=l) (σ:=runM (zar l m u v) P.work.toList) (i:=i) (k:=l.nodes.toNat+1) (by omega)
 have e2:=zns (l:=l) (σ:=(zar l m u v)) (i:=i) (k:=l.nodes.toNat+1) (by omega)
 refine TC.draw (od [1,3,5,7,9,11,13,15,17,19]) [8,10,14] fc_m (by kernel_rfl) (xms Z (xmi Z (TL.iaO Z ha7 Z zah (by omega) Z Z (TL.ldRS 14 (.int _ _) Z Z zcw (by omega) (Z) zad Z Z (xls 8 zeU Z Z (xmi Z (TL.iaO Z ha3 Z zah (by omega) Z Z (TL.ldRS 10 (.int _ _) Z Z zcw (by omega) (Z) zad Z Z ?_))))))))
 refine TL.sub _ Z Z (wr64 (by omega)) Z Z (xai Z (dS (TC.bigO 16 17 i Z (by omega) (by decide) (TC.rowS 17 Z (fun a5 b5 o5 c5 hv5 hc5 ha5=>?_)))))
 have w5:=hv5
 injection w5 with p5 q5
 replace q5:s9[i]!.2.1=(zbr l (runM (zar l m u v) P.work.toList) (i:Int)).size:=q5
 have t5:=zoR (l:=l) (σ:=runM (zar l m u v) P.work.toList) (x:=(i:Int))
 refine TC.bigO 12 18 i Z (by omega) (by decide) (TC.rowS 18 Z (fun a8 b8 o8 c8 hv8 hc8 ha8=>?_))
 have w8:=hv8
 injection w8 with p8 q8
 replace q8:sx[i]!.2.1=(zbr l ((zar l m u v)) (i:Int)).size:=q8
 have t8:=zoR (l:=l) (σ:=(zar l m u v)) (x:=(i:Int))
 refine TC.draw (od [1,3,5,7,9,11,13,15,17,19,21,23,25,27,29,30,33,35,37,39,41,43,45,47,49,51,53,55,57,59,61]) [9,11,13,15] fc_m (by kernel_rfl) (xmi Z (TL.lssF Z Z (by omega) Z Z (xmf Z (xmi Z (TL.gtrF Z Z (by omega) Z Z (xpF Z (xmf Z (xms Z ?_))))))))
 refine xmi Z (TL.iaO Z ha6 Z zdn (by omega) Z Z (TL.ldRS 15 (.slice _ _ _) Z Z (zaP ha6) (by omega) (Z) zeU Z Z (xls 9 zwS Z Z (xmi Z (TL.iaO Z ha4 Z zdn (by omega) Z Z (TL.ldRS 11 (.slice _ _ _) Z Z (zaP ha4) (by omega) (Z) zeU Z Z (xd [17,18] (zrA (fun h=>by rw [p5]; exact ha5 (by rw [<-q5]; exact h)) (by omega) q5.symm (by rw [q5]; exact zcw) (fun h=>by rw [p8]; exact ha8 (by rw [<-q8]; exact h)) (by omega) q8.symm (by rw [q8]; exact zcw)) zAN Z (kL4 Z Z Z Z Zt) (TL.casesP Z (fun q2=>?_) (fun q2=>?_)))))))))
 refine xnt Z (xmf Z (xo Z (xo Z (xpF Z (xpF Z (xmf Z (xf 2 ze0 Z (xlb 13 zd3 Z Z ?_))))))))
 refine TL.not _ _ rfl rfl rfl rfl (xmb rfl (TL.cases rfl (fun q3=>?_) (fun q3=>?_)))
 refine xmi rfl (TL.neqF rfl rfl (fun h=>h (by rcases hv1 with h1 | ⟨h2,h1⟩; (· omega); (exact absurd h2 (by simp_all)))) rfl rfl (xpG rfl (xpF rfl (TL.done (TQ.then (TC.condF rfl (TC.skip (TQ.inBlock ?_))))))))
 refine TQ.then (TC.bigC 16 17 i (zdj s9 (fun j:Nat=>zbr l (runM (zar l m u v) P.work.toList) (j:Int))) Z Z (by decide) (fun h hh=>(show rowS (.slice s9[i]!.1 s9[i]!.2.1 s9[i]!.2.2) (zbr l (runM (zar l m u v) P.work.toList) (i:Int)) h from ⟨_,_,_,_,hv5,hc5,ha5,hh⟩)) (fun j hj hne x h=>by unfold zit at h; rwa [Zn hne] at h) (TC.bigC 12 18 i (zdj sx (fun j:Nat=>zbr l ((zar l m u v)) (j:Int))) Z Z (by decide) (fun h hh=>(show rowS (.slice sx[i]!.1 sx[i]!.2.1 sx[i]!.2.2) (zbr l ((zar l m u v)) (i:Int)) h from ⟨_,_,_,_,hv8,hc8,ha8,hh⟩)) (fun j hj hne x h=>by unfold zit at h; rwa [Zn hne] at h) (TC.region ?_)))
 refine TL.add (((i+1:Nat):Int)) Z Z (wrN (by omega)) Z Z (xmi Z (TL.done (TQ.roundK (i+1) ⟨(show i+1<=l.nodes.toNat+1 by omega),(show l.nodes.toNat+1 - (i+1)<l.nodes.toNat+1 - i by omega)⟩ ⟨Z,Zt⟩ Zt (kE6 Z Z Z Z Z Z Zt) (kL8 Z Z Z Z Z Z Z Z (kL8 Z Z Z Z Z Z Z Z (kL1 Z Zt))))))
 refine xo Z (xo Z (xpF Z (xpF Z (TL.done (TQ.then (TC.condF Z (TC.skip (TQ.inBlock ?_))))))))
 refine TQ.then (TC.bigC 16 17 i (zdj s9 (fun j:Nat=>zbr l (runM (zar l m u v) P.work.toList) (j:Int))) Z Z (by decide) (fun h hh=>(show rowS (.slice s9[i]!.1 s9[i]!.2.1 s9[i]!.2.2) (zbr l (runM (zar l m u v) P.work.toList) (i:Int)) h from ⟨_,_,_,_,hv5,hc5,ha5,hh⟩)) (fun j hj hne x h=>by unfold zit at h; rwa [Zn hne] at h) (TC.bigC 12 18 i (zdj sx (fun j:Nat=>zbr l ((zar l m u v)) (j:Int))) Z Z (by decide) (fun h hh=>(show rowS (.slice sx[i]!.1 sx[i]!.2.1 sx[i]!.2.2) (zbr l ((zar l m u v)) (i:Int)) h from ⟨_,_,_,_,hv8,hc8,ha8,hh⟩)) (fun j hj hne x h=>by unfold zit at h; rwa [Zn hne] at h) (TC.region ?_)))
 refine TL.add (((i+1:Nat):Int)) Z Z (wrN (by omega)) Z Z (xmi Z (TL.done (TQ.roundK (i+1) ⟨(show i+1<=l.nodes.toNat+1 by omega),(show l.nodes.toNat+1 - (i+1)<l.nodes.toNat+1 - i by omega)⟩ ⟨Z,Zt⟩ Zt (kE6 Z Z Z Z Z Z Zt) (kL8 Z Z Z Z Z Z Z Z (kL8 Z Z Z Z Z Z Z Z (kL1 Z Zt))))))
 refine xnf rfl (xmt rfl (xmi rfl (TL.neqF rfl rfl (fun h=>h (by rcases hv1 with h1 | ⟨_,h1⟩; (· exact absurd (hv2 h1) (by first | assumption | exact of_decide_eq_false (by assumption) | (simp_all; done) | trace_state)); omega)) rfl rfl (xpG rfl (xpF rfl (xmf rfl (xf 2 ze0 rfl (xlb 13 zd3 rfl rfl ?_))))))))
 refine TL.not _ _ rfl rfl rfl rfl (xmb rfl (TL.cases rfl (fun q3=>?_) (fun q3=>?_)))
 refine xmi rfl (TL.neqF rfl rfl (fun h=>h (by rcases hv1 with h1 | ⟨h2,h1⟩; (· omega); (exact absurd h2 (by simp_all)))) rfl rfl (xpG rfl (xpF rfl (TL.done (TQ.then (TC.condF rfl (TC.skip (TQ.inBlock ?_))))))))
 refine TQ.then (TC.bigC 16 17 i (zdj s9 (fun j:Nat=>zbr l (runM (zar l m u v) P.work.toList) (j:Int))) Z Z (by decide) (fun h hh=>(show rowS (.slice s9[i]!.1 s9[i]!.2.1 s9[i]!.2.2) (zbr l (runM (zar l m u v) P.work.toList) (i:Int)) h from ⟨_,_,_,_,hv5,hc5,ha5,hh⟩)) (fun j hj hne x h=>by unfold zit at h; rwa [Zn hne] at h) (TC.bigC 12 18 i (zdj sx (fun j:Nat=>zbr l ((zar l m u v)) (j:Int))) Z Z (by decide) (fun h hh=>(show rowS (.slice sx[i]!.1 sx[i]!.2.1 sx[i]!.2.2) (zbr l ((zar l m u v)) (i:Int)) h from ⟨_,_,_,_,hv8,hc8,ha8,hh⟩)) (fun j hj hne x h=>by unfold zit at h; rwa [Zn hne] at h) (TC.region ?_)))
 refine TL.add (((i+1:Nat):Int)) Z Z (wrN (by omega)) Z Z (xmi Z (TL.done (TQ.roundK (i+1) ⟨(show i+1<=l.nodes.toNat+1 by omega),(show l.nodes.toNat+1 - (i+1)<l.nodes.toNat+1 - i by omega)⟩ ⟨Z,Zt⟩ Zt (kE6 Z Z Z Z Z Z Zt) (kL8 Z Z Z Z Z Z Z Z (kL8 Z Z Z Z Z Z Z Z (kL1 Z Zt))))))
 refine xo Z (xo Z (xpF Z (xpF Z (TL.done (TQ.then (TC.condF Z (TC.skip (TQ.inBlock ?_))))))))
 refine TQ.then (TC.bigC 16 17 i (zdj s9 (fun j:Nat=>zbr l (runM (zar l m u v) P.work.toList) (j:Int))) Z Z (by decide) (fun h hh=>(show rowS (.slice s9[i]!.1 s9[i]!.2.1 s9[i]!.2.2) (zbr l (runM (zar l m u v) P.work.toList) (i:Int)) h from ⟨_,_,_,_,hv5,hc5,ha5,hh⟩)) (fun j hj hne x h=>by unfold zit at h; rwa [Zn hne] at h) (TC.bigC 12 18 i (zdj sx (fun j:Nat=>zbr l ((zar l m u v)) (j:Int))) Z Z (by decide) (fun h hh=>(show rowS (.slice sx[i]!.1 sx[i]!.2.1 sx[i]!.2.2) (zbr l ((zar l m u v)) (i:Int)) h from ⟨_,_,_,_,hv8,hc8,ha8,hh⟩)) (fun j hj hne x h=>by unfold zit at h; rwa [Zn hne] at h) (TC.region ?_)))
 refine TL.add (((i+1:Nat):Int)) Z Z (wrN (by omega)) Z Z (xmi Z (TL.done (TQ.roundK (i+1) ⟨(show i+1<=l.nodes.toNat+1 by omega),(show l.nodes.toNat+1 - (i+1)<l.nodes.toNat+1 - i by omega)⟩ ⟨Z,Zt⟩ Zt (kE6 Z Z Z Z Z Z Zt) (kL8 Z Z Z Z Z Z Z Z (kL8 Z Z Z Z Z Z Z Z (kL1 Z Zt))))))
 refine dS (TC.condF Z (TC.exit (TQ.thenExit (TQ.thenExit (TQ.blockHere (TQ.then (TC.seq (TC.conseq 10 (B:=rowS (.slice a3 _ e3) (vrA l ((zar l m u v)) (l.nodes.toNat+1))) Z (fun _ h=>⟨_,_,_,_,Z,hc3,ha3,h⟩) ?_))))))))
 refine TC.starC 11 12 Z Z (by decide) (TC.region (xat Z (dR ?_)))
 refine FQ.ret1 (v:=(.bool true)) (Bs:=[_,_,_,_,_,_,_,_,_,_,_,_]) [0,1,2,3,4,5,6,7,8,9,10,11] Z Z Z ⟨Z,Z,Z,Z,Z,Z,Z,Z,Z,Z,Z,Z,Zt⟩ ?_
 exact ⟨Z,Z⟩
theorem zuO {l:Lay} (hl:l.Ok) {pb ab mb bp:Nat} {σ:Array UInt64} {pr:Int->Int} {g0:G} (h0:P19 l pr 0 σ 0 g0 #[]) {oa:Option Addr} {on oc bo offo:Nat} {Ao:Assn} {fo:Nat->Op3} (hoa:0<on->oa=some ⟨bo,offo,none⟩) (hAo:zbj Ao ztY 3 bo offo on fo) (hon:on<=24) {da:Option Addr} {dn dc:Nat} {bl bv bt:Nat}:Go.Eng.Fn Tryz.prog 37 [.pointer (some ⟨pb,0,none⟩),.agg #[.int .i64 l.V,.int .i64 l.S,.int .i64 l.T,.slice da dn dc,.slice oa on oc],.func (.func 49) #[] #[.pointer (some ⟨bl,0,none⟩),.pointer (some ⟨bv,0,none⟩),.pointer (some ⟨bt,0,none⟩)],.func (.func 50) #[] #[.pointer (some ⟨bl,0,none⟩),.pointer (some ⟨bv,0,none⟩),.pointer (some ⟨bt,0,none⟩)]] [pt pb (.cells #[.int .i64 l.V,.int .i64 l.S,.int .i64 l.T,.pointer (some ⟨ab,0,none⟩),.int .i64 (0),.slice none 0 0] 57),zal ab mb 139 29 (σ),ownA encE 5 80 (.slice none 0 0) #[],Ao,pt bp (.cells #[.pointer (some ⟨pb,0,none⟩)] 46),pt bl (.cells #[.func (.func 47) #[] #[.pointer (some ⟨bp,0,none⟩)]] 86),pt bv (.cells #[.slice none 0 0] 48),pt bt (.cells #[.slice none 0 0] 84),rowS (.slice none 0 0) #[],star (ownA zfX 1 48 (.slice none 0 0) ((#[]:Array (Option Addr×Nat×Nat)))) (bigA (zdj (#[]:Array (Option Addr×Nat×Nat)) (fun _:Nat=>(#[]:Array Int))) (#[]:Array (Option Addr×Nat×Nat)).size)] (fun r Bs=>r=.bool true/\∃ A0 A1 A2 A3 A4 A5 A6 A7 A8,Bs=[A0,A1,A2,Ao,A3,A4,A5,A6,A7,A8]):=by
 exact (zqc hl (κ:=Value×Value×Array Int×Array (Option Addr×Nat×Nat)×(Nat->Array Int)) (C0:=fun _=>pt bp (.cells #[.pointer (some ⟨pb,0,none⟩)] 46)) (C1:=fun _=>pt bl (.cells #[.func (.func 47) #[] #[.pointer (some ⟨bp,0,none⟩)]] 86)) (C2:=fun x=>pt bv (.cells #[x.1] 48)) (C3:=fun x=>pt bt (.cells #[x.2.1] 84)) (C4:=fun x=>rowS x.1 x.2.2.1) (C5:=fun x=>star (ownA zfX 1 48 x.2.1 (x.2.2.2.1)) (bigA (zdj x.2.2.2.1 x.2.2.2.2) x.2.2.2.1.size)) (J:=fun _ _ _ _ _=>True)
  (K:=fun k m tg d P u v d2 n x=>zoG l (zar l m u v) n x.2.2.1 x.2.2.2.1 x.2.2.2.2) (ce:=[.pointer (some ⟨bl,0,none⟩),.pointer (some ⟨bv,0,none⟩),.pointer (some ⟨bt,0,none⟩)]) (cl:=[.pointer (some ⟨bl,0,none⟩),.pointer (some ⟨bv,0,none⟩),.pointer (some ⟨bt,0,none⟩)]) zAK zAJ (fun _ _ _ _=>.inl Z)
  (fun hk hP hC hn hK=>(zuU hl hk hP hC hn hK).mono fun r Bs ⟨h1,wv2,tv2,dw2,sx2,tx2,h2,h3⟩=>⟨h1,(wv2,tv2,dw2,sx2,tx2),h2,h3⟩) (fun {k m tg g d P u v s g2 d2 x xa xc ya yc va v2} hk hP hC hK=>(zuT hl hk hP hC hK).mono fun r Bs ⟨h1,h2⟩=>⟨h1,x,h2,Zt⟩) hoa hAo hon h0 (x0:=(.slice none 0 0,.slice none 0 0,#[],#[],fun _=>#[])) Zt).mono fun r Bs ⟨h1,_,_,_,_,_,h2⟩=>⟨h1,_,_,_,_,_,_,_,_,_,h2⟩
theorem zxl {V S T:Int}  {da oa:Option Addr} {dn dc on oc:Nat} (hno:¬(okL V S T/\V<=6/\S<=8/\dn<=60/\on<=24)):FnD Tryz.prog 7 [.agg #[.int .i64 V,.int .i64 S,.int .i64 T,.slice da dn dc,.slice oa on oc]] [] (.bool true) []:=by
 refine Fn.enter (Tryz.func7) Z Z (fun w0 R=>?_)
 refine sA (xB 0 Z (fun bk0=>(xaf Z (dB (xL5 0 ziQ Z Z (xD [] zkp zw3 Z ?_))))))
 rw [decide_eq_false hno]
 refine xnf Z (dT Z (xD [] zkX zw4 Z (xat Z (dRR ?_))))
 refine FQ.ret1 (v:=(.bool true)) (Bs:=[]) [] Z Z Z Zt ?_
 exact ⟨Z,Z⟩
set_option maxHeartbeats 1000000 in
theorem zxm {l:Lay} (hl:l.Ok) {da oa:Option Addr} {dn dc on oc:Nat} {Ad:Assn} {bd offd bo offo:Nat} {fd:Nat->Int} {fo:Nat->Op3} (hda:0<dn->da=some ⟨bd,offd,none⟩) (hAd:zbj Ad encU 1 bd offd dn fd) (hfd:∀ i,i<dn->0<=fd i/\fd i<18446744073709551616) (hoa:0<on->oa=some ⟨bo,offo,none⟩) (hAo:zbj Ad ztY 3 bo offo on fo) (hoc:on<=oc) (hok:(okL l.V l.S l.T/\(l.V:Int)<=6/\(l.S:Int)<=8/\dn<=60/\on<=24)):FnD Tryz.prog 7 [.agg #[.int .i64 l.V,.int .i64 l.S,.int .i64 l.T,.slice da dn dc,.slice oa on oc]] [Ad] (.bool true) [Ad]:=by
 obtain ⟨hk1,hk2,hk3,hk4,hk5⟩:=hok
 have hok:(okL l.V l.S l.T/\(l.V:Int)<=6/\(l.S:Int)<=8/\dn<=60/\on<=24):=⟨hk1,hk2,hk3,hk4,hk5⟩
 have hdn:dn<=60:=by omega
 have hon:on<=24:=by omega
 have hnb:=zaB hl
 have hcb:=zf0 hl
 have hlb:=zct hl
 have hob:=zb7 hl
 have hlk:=zdP hl
 have hhd:l.heads=l.T+1+l.S * 7:=rfl
 refine Fn.enter (Tryz.func7) Z Z (fun w0 R=>?_)
 refine sA (xB 1 Z (fun bk1=>(xaf Z (dB (xL5 1 ziQ Z Z (xD [] zkp zw3 Z ?_))))))
 rw [decide_eq_true hok]
 refine xnt Z (dF Z (xL5 1 ziQ Z Z (TL.call [0] [0,2,3] (zkW hl hda hAd hfd (by omega)) ⟨Z,Zt⟩ ⟨Z,Zt⟩ zw2 Z Z Z Z ?_)))
 rintro x Bs ⟨pb,ab,mb,rfl,rfl⟩
 refine ⟨Z,Zt,?_⟩
 have h0:=P19.born hl (zul hl hfd (N:=l.cells.toNat) (by omega))
 refine TL.alloc 4 (cs:=#[.pointer none]) zAq Z Z Z (fun _=>Zt) (fun bk4=>(TL.st 4 #[_] (.pointer (some ⟨_,_,none⟩)) Z Z Z Z Z Z zig Z Z Zt (dB (xlp 4 zig Z Z (TL.nilP false Z Z zwV Z Z Z (dF Z (TL.alloc 5 (cs:=#[.slice none 0 0]) zm7 Z Z Z (fun _=>Zt) (fun bk5=>(dA (TL.alloc 6 (cs:=#[.slice none 0 0]) zAo Z Z Z (fun _=>Zt) (fun bk6=>?_)))))))))))
 refine dA (TL.mf (xs:=[]) (ys:=[_]) [] [_] Zt ⟨Z,Zt⟩ Z Z (TL.alloc 7 (cs:=#[.nilFunc]) zAn Z Z Z (fun _=>Zt) (fun bk7=>(TL.st 7 #[_] (.func _ _ _) Z Z Z Z Z Z zs5 Z Z Zt (dA (TL.mf (xs:=[]) (ys:=[_,_,_]) [] [_,_,_] Zt ⟨Z,Z,Z,Zt⟩ Z Z (TL.asg (.func _ _ _) Z Z Z (dA (TL.mf (xs:=[]) (ys:=[_,_,_]) [] [_,_,_] Zt ⟨Z,Z,Z,Zt⟩ Z Z ?_)))))))))
 refine TL.asg (.func _ _ _) Z Z Z (dS (TC.nilA 8 (A:=ownA encE 5 80 (.slice none 0 0) #[]) (.inl ⟨Z,Z⟩) (TC.nilA 9 (A:=rowS (.slice none 0 0) #[]) za2 (TC.nilA 10 (A:=star (ownA zfX 1 48 (.slice none 0 0) ((#[]:Array (Option Addr×Nat×Nat)))) (bigA (zdj (#[]:Array (Option Addr×Nat×Nat)) (fun _:Nat=>(#[]:Array Int))) (#[]:Array (Option Addr×Nat×Nat)).size)) ⟨fun _=>none,fun _=>none,fun _ _ h=>h,fun _ _ h=>h,fun _=>.inl Z,.inl ⟨Z,Z⟩,zni⟩ (TC.region (xlp 4 zig Z Z (xL5 1 ziQ Z Z (TL.mv (.func _ _ _) Z Z Z ?_))))))))
 refine TL.mv (.func _ _ _) Z Z Z (TL.call [2,3,8,0,4,7,5,6,9,10] [2,3,8,0,4,7,5,6,9,10] (zuO hl h0 hoa hAo (by omega)) ⟨Z,Z,Z,Z,Zt⟩ ⟨Z,Z,Z,Z,Z,Z,Z,Z,Z,Z,Zt⟩ zAM Z Z Z Z ?_)
 rintro r9 Bs ⟨rfl,A0,A1,A2,A3,A4,A5,A6,A7,A8,rfl⟩
 refine ⟨Z,Zt,?_⟩
 refine xmt Z (xD [] zkX zw4 Z (xpT Z (xat Z (dR ?_))))
 refine FQ.ret1 (v:=(.bool true)) (Bs:=[_]) [0] Z Z Z ⟨Z,Zt⟩ ?_
 exact ⟨Z,Z⟩
end Go.Proofs.YtabjfnfglcghfaaGreat
