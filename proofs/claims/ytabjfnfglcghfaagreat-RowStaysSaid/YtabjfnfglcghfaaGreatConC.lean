import Derived.Test.YtabjfnfglcghfaaGreatConB
set_option linter.unusedVariables false
set_option linter.unusedSimpArgs false
set_option maxRecDepth 20000
namespace Go.Proofs.YtabjfnfglcghfaaGreat
open Go.Eng Go.Tm
theorem zvT {l:Lay} (hl:l.Ok) {pb ab mb:Nat} {tg:Int} {av:Value} {σ:Array UInt64} {wa ra:Option Addr} {wn wc rc br offr:Nat} {A1:Assn} {pq:Int} {tr:Bool} {d:Array Int} (hra:0<d.size->ra=some ⟨br,offr,none⟩) (hA1:za8 A1 Tm.encI 1 br offr d.size (fun i=>d[i]!)) (hdz:d.size<=2) (htg:0<=tg/\tg<=1000)  : FnD Tryz.prog 60 [.pointer (some ⟨pb,0,none⟩),.agg #[.slice wa wn wc,.int .i64 pq,.bool tr,.slice ra d.size rc]] [pt pb (.cells #[.int .i64 l.V,.int .i64 l.S,.int .i64 l.T,.pointer (some ⟨ab,0,none⟩),.int .i64 (tg),av] 57),zap ab mb 139 29 (σ),A1] (.tuple #[]) [pt pb (.cells #[.int .i64 l.V,.int .i64 l.S,.int .i64 l.T,.pointer (some ⟨ab,0,none⟩),.int .i64 (if tr then tg+1 else tg),av] 57),zap ab mb 139 29 (zbl l d [] 0 d.size σ),A1]:=by
 refine Fn.enter (Tryz.func60) Z Z (fun w0 R=>?_)
 refine sA (xB 3 Z (fun bk3=>(dB (xf 3 zdw Z (xls 3 zhq Z Z (xz zah Z (xmi Z (dK (TC.loopK (X:=Nat) [0,3,7,8] [0,2,3] (fun k=>[(9,.int .i64 ((k:Nat):Int))]) (fun k=>[(1,zap ab mb 139 29 (zbl l d [] 0 k σ))]) (fun k=>k<=d.size) (fun k=>d.size - k) (0) (Nat.zero_le _) ⟨Z,Zt⟩ ⟨Z,Zt⟩ (fun k hI=>?_))))))))))
 refine TC.sub (env':=[(9,_),(0,_),(3,_),(7,_),(8,_)]) (L':=[(1,_),(0,_),(2,_),(3,_)]) ⟨Z,Z,Z,Z,Z,Zt⟩ ⟨Z,Z,Z,Z,Zt⟩ (sA (TL.lss Z Z Z Z (fun q1=>?_) (fun q1=>?_)))
 refine dS (TC.condT Z (TC.skip (TQ.then (TC.seq (TC.block (sA (TL.iaO Z hra Z zah (by omega) Z Z (TL.ldRS 2 (.int _ _) Z Z hA1 (by omega) (Z) zaa Z Z ?_))))))))
 refine xai Z (TL.done (TQ.then (TC.draw (od [1,3,5,7,9,11,13,15,17,18,20]) [0] fc_m (by kernel_rfl) (xmp Z (xN0 Z (xf 3 zbK Z (xlp 0 zdl Z Z (xmp Z ?_))))))))
 refine xN0 Z (xf 0 zaL Z (xL3 0 zac Z Z (xmi Z (xd [] (zba hl) zcp Z (kL1 Z Zt) (xd [1] (ze6 (by decide)) zkN Z (kL1 Z Zt) (dI (TL.add (((k+1:Nat):Int)) Z Z (wrN (by omega)) Z Z (xmi Z ?_))))))))
 refine TL.done (TQ.roundK (k+1) ⟨by omega,by omega⟩ ⟨Z,Zt⟩ ⟨congrArg (fun z=>some (zap ab mb 139 29 (z))) zqV,Zt⟩ (kE4 Z Z Z Z Zt) (kL3 Z Z Z Zt))
 refine dS (TC.condF Z (TC.exit (TQ.thenExit (TQ.thenExit (TQ.blockHere (TQ.then (sA (xf 2 zh0 Z ?_))))))))
 refine xlb 3 zem Z Z (TL.done (TQ.then (TC.cond Z (fun q2=>?_) (fun q2=>?_))))
 refine TC.region (xmp Z (xN0 Z (xf 4 ze1 Z (xli 0 zaa Z Z (TL.add _ Z Z (wr64 (by omega)) Z Z (xN0 Z (xf 4 ze1 Z (TL.st 0 #[_,_,_,_,_,_] (.int _ _) Z Z Z Z Z Z zaa Z Z Zt ?_))))))))
 refine TL.done ?_
 refine FQ.end0 (Bs:=[_,_,A1]) [0,1,2] Z Z ⟨Z,Z,Z,Zt⟩ ?_
 obtain rfl:k=d.size:=by omega
 exact ⟨Z,by rw [Zp (by assumption)]⟩
 refine TC.skip ?_
 refine FQ.end0 (Bs:=[_,_,A1]) [0,1,2] Z Z ⟨Z,Z,Z,Zt⟩ ?_
 obtain rfl:k=d.size:=by omega
 exact ⟨Z,by rw [Zn (by simp_all)]⟩
theorem zvn {l:Lay} (hl:l.Ok) {pb ab mb:Nat} {tg:Int} {av:Value} {σ:Array UInt64} {d:Array EdR} {o:Op3} (hd:d.size<=100) (hsl:∀ j,j<d.size->0<=d[j]!.slot/\d[j]!.slot<l.S) (hx:o.u=o.v\/o.u<0\/l.V<=o.u\/o.v<0\/l.V<=o.v):FnD Tryz.prog 54 [.pointer (some ⟨pb,0,none⟩),.agg #[.int .i64 o.kind,.int .i64 o.u,.int .i64 o.v]] [pt pb (.cells #[.int .i64 l.V,.int .i64 l.S,.int .i64 l.T,.pointer (some ⟨ab,0,none⟩),.int .i64 (tg),av] 57),zap ab mb 139 29 (σ),ownA encE 5 80 av d] (.tuple #[.agg #[.slice none 0 0,.int .i64 0,.bool false,.slice none 0 0],.slice none 0 0,.bool false]) [pt pb (.cells #[.int .i64 l.V,.int .i64 l.S,.int .i64 l.T,.pointer (some ⟨ab,0,none⟩),.int .i64 (tg),av] 57),zap ab mb 139 29 (σ),ownA encE 5 80 av d,ownA zax 3 34 (.slice none 0 0) ((#[]:Array Acc)),rowS (.slice none 0 0) #[],rowS (.slice none 0 0) #[]]:=by
 have hb:=zei hl
 refine Fn.enter (Tryz.func54) Z Z (fun w0 R=>?_)
 refine sA (xB 3 Z (fun bk3=>(TL.alloc 4 (cs:=#[.slice none 0 0,.int .i64 0,.bool false,.slice none 0 0]) zb3 Z Z Z (fun _=>Zt) (fun bk4=>(TL.asg (.slice none 0 0) Z Z Z (xaf Z (dS (TC.seq (TC.draw (od [1,3,5,7,9,11,13,15,17,19,21,23,25,27,29,31,33,35,37,39,41,43,45,47,49,51,53,55,57,59,61,63,65,67,69]) [0,3] fc_m (by kernel_rfl) (xf 1 zaU Z ?_))))))))))
 refine xli 3 zaa Z Z (xf 2 zaT Z (xli 3 zaa Z Z (TL.eql Z Z Z Z (fun q1=>?_) (fun q1=>?_))))
 refine xmt Z (xo Z (xo Z (xo Z (xpT Z (xmt Z (xo Z (xo Z (xo Z ?_))))))))
 refine xo Z (xo Z (xo Z (xo Z (xo Z (xpT Z (xmt Z (xo Z (xo Z ?_))))))))
 refine xo Z (xpT Z (xmt Z (xo Z (xo Z (xo Z (xo Z (xo Z (xo Z ?_))))))))
 refine xo Z (xo Z (xpT Z (TL.done (TQ.then (TC.condT Z (TC.seq (TC.nilA 5 (A:=ownA zax 3 34 (.slice none 0 0) ((#[]:Array Acc))) (.inl ⟨Z,Z⟩) (TC.nilA 6 (A:=rowS (.slice none 0 0) #[]) zbj ?_))))))))
 refine TC.nilA 7 (A:=rowS (.slice none 0 0) #[]) zbj (TC.region (TL.bld [.slice none 0 0,.int .i64 0,.bool false,.slice none 0 0] [] [_,_,_,_] zb3 zeW Zt ⟨Z,Z⟩ Z Z (TL.stW 4 4 [_,_,_,_] Z Z Z Z Z Z zat Z Z Zt (TL.asg (.slice none 0 0) Z Z Z (xaf Z (dRR ?_))))))
 refine FQ.retG (rs:=[.cell 4 50,.tmp 5,.tmp 6]) [(.agg _),(.slice none 0 0),(.bool false)] (Bs:=[_,_,_,_,_,_]) [0,1,2,5,6,7] Z ⟨⟨_,_,_,_,_,4,Z,Z,.inr ⟨4,[_,_,_,_],zat,Z,Z⟩⟩,Z,Z,Zt⟩ Z Z ⟨Z,Z,Z,Z,Z,Z,Zt⟩ ?_
 exact ⟨Z,Z⟩
 refine xmf Z (xf 1 zaU Z (xli 3 zaa Z Z (TL.lss Z Z Z Z (fun q2=>?_) (fun q2=>?_))))
 refine xpH Z (xmt Z (xo Z (xo Z (xo Z (xo Z (xo Z (xo Z (xo Z ?_))))))))
 refine xo Z (xpT Z (xmt Z (xo Z (xo Z (xo Z (xpT Z (xmt Z (xo Z ?_))))))))
 refine xo Z (xo Z (xo Z (xo Z (xo Z (xo Z (xo Z (xpT Z (TL.done ?_))))))))
 refine TQ.then (TC.condT Z (TC.seq (TC.nilA 8 (A:=ownA zax 3 34 (.slice none 0 0) ((#[]:Array Acc))) (.inl ⟨Z,Z⟩) (TC.nilA 9 (A:=rowS (.slice none 0 0) #[]) zbj (TC.nilA 10 (A:=rowS (.slice none 0 0) #[]) zbj (TC.region (TL.bld [.slice none 0 0,.int .i64 0,.bool false,.slice none 0 0] [] [_,_,_,_] zb3 zeW Zt ⟨Z,Z⟩ Z Z (TL.stW 4 4 [_,_,_,_] Z Z Z Z Z Z zat Z Z Zt ?_))))))))
 refine TL.asg (.slice none 0 0) Z Z Z (xaf Z (dRR ?_))
 refine FQ.retG (rs:=[.cell 4 50,.tmp 5,.tmp 6]) [(.agg _),(.slice none 0 0),(.bool false)] (Bs:=[_,_,_,_,_,_]) [0,1,2,8,9,10] Z ⟨⟨_,_,_,_,_,4,Z,Z,.inr ⟨4,[_,_,_,_],zat,Z,Z⟩⟩,Z,Z,Zt⟩ Z Z ⟨Z,Z,Z,Z,Z,Z,Zt⟩ ?_
 exact ⟨Z,Z⟩
 refine xpF Z (xmf Z (xf 1 zaU Z (xli 3 zaa Z Z (xmp Z (xN0 Z (xf 0 zaL Z (xf 0 zaH Z (xli 0 zaa Z Z ?_))))))))
 refine TL.geq Z Z Z Z (fun q3=>?_) (fun q3=>?_)
 refine xpH Z (xmt Z (xo Z (xo Z (xo Z (xpT Z (xmt Z (xo Z (xo Z ?_))))))))
 refine xo Z (xo Z (xo Z (xo Z (xo Z (xo Z (xpT Z (TL.done (TQ.then ?_))))))))
 refine TC.condT Z (TC.seq (TC.nilA 11 (A:=ownA zax 3 34 (.slice none 0 0) ((#[]:Array Acc))) (.inl ⟨Z,Z⟩) (TC.nilA 12 (A:=rowS (.slice none 0 0) #[]) zbj (TC.nilA 13 (A:=rowS (.slice none 0 0) #[]) zbj (TC.region (TL.bld [.slice none 0 0,.int .i64 0,.bool false,.slice none 0 0] [] [_,_,_,_] zb3 zeW Zt ⟨Z,Z⟩ Z Z (TL.stW 4 4 [_,_,_,_] Z Z Z Z Z Z zat Z Z Zt (TL.asg (.slice none 0 0) Z Z Z ?_))))))))
 refine xaf Z (dRR ?_)
 refine FQ.retG (rs:=[.cell 4 50,.tmp 5,.tmp 6]) [(.agg _),(.slice none 0 0),(.bool false)] (Bs:=[_,_,_,_,_,_]) [0,1,2,11,12,13] Z ⟨⟨_,_,_,_,_,4,Z,Z,.inr ⟨4,[_,_,_,_],zat,Z,Z⟩⟩,Z,Z,Zt⟩ Z Z ⟨Z,Z,Z,Z,Z,Z,Zt⟩ ?_
 exact ⟨Z,Z⟩
 refine xpF Z (xmf Z (xf 2 zaT Z (xli 3 zaa Z Z (TL.lss Z Z Z Z (fun q4=>?_) (fun q4=>?_)))))
 refine xpH Z (xmt Z (xo Z (xo Z (xo Z (xo Z (xo Z (xo Z (xo Z ?_))))))))
 refine xo Z (xpT Z (TL.done (TQ.then (TC.condT Z (TC.seq (TC.nilA 14 (A:=ownA zax 3 34 (.slice none 0 0) ((#[]:Array Acc))) (.inl ⟨Z,Z⟩) (TC.nilA 15 (A:=rowS (.slice none 0 0) #[]) zbj (TC.nilA 16 (A:=rowS (.slice none 0 0) #[]) zbj ?_))))))))
 refine TC.region (TL.bld [.slice none 0 0,.int .i64 0,.bool false,.slice none 0 0] [] [_,_,_,_] zb3 zeW Zt ⟨Z,Z⟩ Z Z (TL.stW 4 4 [_,_,_,_] Z Z Z Z Z Z zat Z Z Zt (TL.asg (.slice none 0 0) Z Z Z (xaf Z (dRR ?_)))))
 refine FQ.retG (rs:=[.cell 4 50,.tmp 5,.tmp 6]) [(.agg _),(.slice none 0 0),(.bool false)] (Bs:=[_,_,_,_,_,_]) [0,1,2,14,15,16] Z ⟨⟨_,_,_,_,_,4,Z,Z,.inr ⟨4,[_,_,_,_],zat,Z,Z⟩⟩,Z,Z,Zt⟩ Z Z ⟨Z,Z,Z,Z,Z,Z,Zt⟩ ?_
 exact ⟨Z,Z⟩
 refine xpF Z (xmf Z (xf 2 zaT Z (xli 3 zaa Z Z (xmp Z (xN0 Z (xf 0 zaL Z (xf 0 zaH Z (xli 0 zaa Z Z ?_))))))))
 refine TL.geq Z Z Z Z (fun q5=>?_) (fun q5=>?_)
 refine xpH Z (TL.done (TQ.then (TC.condT Z (TC.seq (TC.nilA 17 (A:=ownA zax 3 34 (.slice none 0 0) ((#[]:Array Acc))) (.inl ⟨Z,Z⟩) (TC.nilA 18 (A:=rowS (.slice none 0 0) #[]) zbj (TC.nilA 19 (A:=rowS (.slice none 0 0) #[]) zbj (TC.region ?_))))))))
 refine TL.bld [.slice none 0 0,.int .i64 0,.bool false,.slice none 0 0] [] [_,_,_,_] zb3 zeW Zt ⟨Z,Z⟩ Z Z (TL.stW 4 4 [_,_,_,_] Z Z Z Z Z Z zat Z Z Zt (TL.asg (.slice none 0 0) Z Z Z (xaf Z (dRR ?_))))
 refine FQ.retG (rs:=[.cell 4 50,.tmp 5,.tmp 6]) [(.agg _),(.slice none 0 0),(.bool false)] (Bs:=[_,_,_,_,_,_]) [0,1,2,17,18,19] Z ⟨⟨_,_,_,_,_,4,Z,Z,.inr ⟨4,[_,_,_,_],zat,Z,Z⟩⟩,Z,Z,Zt⟩ Z Z ⟨Z,Z,Z,Z,Z,Z,Zt⟩ ?_
 exact ⟨Z,Z⟩
 refine xpF Z (TL.done (TQ.then (TC.condF Z (TC.skip (TQ.then (TC.seq ?_))))))
 exact absurd (by omega:False) id
set_option maxHeartbeats 1000000 in
theorem zvm {l:Lay} (hl:l.Ok) {pb ab mb:Nat} {tg:Int} {av:Value} {σ:Array UInt64} {d:Array EdR} {o:Op3} (hd:d.size<=100) (hsl:∀ j,j<d.size->0<=d[j]!.slot/\d[j]!.slot<l.S) (hv:¬(o.u=o.v\/o.u<0\/l.V<=o.u\/o.v<0\/l.V<=o.v)) (hz:¬(o.kind=2/\0<=atN d (min o.u o.v) (max o.u o.v) d.size)) (hz1:o.kind=1->atN d (min o.u o.v) (max o.u o.v) d.size<0->∀ s:Nat,s<l.S->∃ j,j<d.size/\d[j]!.slot=(s:Int)):FnD Tryz.prog 54 [.pointer (some ⟨pb,0,none⟩),.agg #[.int .i64 o.kind,.int .i64 o.u,.int .i64 o.v]] [pt pb (.cells #[.int .i64 l.V,.int .i64 l.S,.int .i64 l.T,.pointer (some ⟨ab,0,none⟩),.int .i64 (tg),av] 57),zap ab mb 139 29 (σ),ownA encE 5 80 av d] (.tuple #[.agg #[.slice none 0 0,.int .i64 0,.bool false,.slice none 0 0],.slice none 0 0,.bool false]) [pt pb (.cells #[.int .i64 l.V,.int .i64 l.S,.int .i64 l.T,.pointer (some ⟨ab,0,none⟩),.int .i64 (tg),av] 57),zap ab mb 139 29 (σ),ownA encE 5 80 av d,ownA zax 3 34 (.slice none 0 0) ((#[]:Array Acc)),rowS (.slice none 0 0) #[],rowS (.slice none 0 0) #[]]:=by
 have hb:=zei hl
 refine Fn.enter (Tryz.func54) Z Z (fun w0 R=>?_)
 refine sA (xB 3 Z (fun bk3=>(TL.alloc 4 (cs:=#[.slice none 0 0,.int .i64 0,.bool false,.slice none 0 0]) zb3 Z Z Z (fun _=>Zt) (fun bk4=>(TL.asg (.slice none 0 0) Z Z Z (xaf Z (dS (TC.seq (TC.draw (od [1,3,5,7,9,11,13,15,17,19,21,23,25,27,29,31,33,35,37,39,41,43,45,47,49,51,53,55,57,59,61,63,65,67,69]) [0,3] fc_m (by kernel_rfl) (xf 1 zaU Z ?_))))))))))
 refine xli 3 zaa Z Z (xf 2 zaT Z (xli 3 zaa Z Z (TL.eqlF Z Z (by omega) Z Z (xmf Z (xf 1 zaU Z (xli 3 zaa Z Z (TL.lssF Z Z (by omega) Z Z (xpF Z ?_))))))))
 refine xmf Z (xf 1 zaU Z (xli 3 zaa Z Z (xmp Z (xN0 Z (xf 0 zaL Z (xf 0 zaH Z (xli 0 zaa Z Z (TL.geqF Z Z (by omega) Z Z ?_))))))))
 refine xpF Z (xmf Z (xf 2 zaT Z (xli 3 zaa Z Z (TL.lssF Z Z (by omega) Z Z (xpF Z (xmf Z (xf 2 zaT Z (xli 3 zaa Z Z ?_))))))))
 refine xmp Z (xN0 Z (xf 0 zaL Z (xf 0 zaH Z (xli 0 zaa Z Z (TL.geqF Z Z (by omega) Z Z (xpF Z (TL.done (TQ.then ?_))))))))
 refine TC.condF Z (TC.skip (TQ.then (TC.seq (TC.draw (od [1,3,5,7,9,11,13,15,17,19,21,23]) [3] fc_m (by kernel_rfl) (xf 1 zaU Z (xli 3 zaa Z Z (xf 2 zaT Z (xli 3 zaa Z Z ?_))))))))
 refine TL.min2 Z Z Z Z (xf 1 zaU Z (xli 3 zaa Z Z (xf 2 zaT Z (xli 3 zaa Z Z (TL.max2 Z Z Z Z (xai Z (xai Z (dS ?_))))))))
 refine TC.draw (od [1,3,5,7,9,13,10,15]) [0] fc_m (by kernel_rfl) (xmp Z (xN0 Z (xf 0 zaL Z (xf 1 zbD Z (xli 0 zaa Z Z (xai Z (TL.mkO 5 (enc:=encB) (N:=l.S) (false) Z Z zhV zyu Z (by decide) (by omega) Z Z (fun bk5=>⟨(kL1 Z Zt),?_⟩))))))))
 refine xas Z (dS (TC.seq (TC.ownW 2 Z (fun a9 g9 c9 hv9 hc9 ha9=>?_))))
 cases hv9
 refine TC.region (xmp Z (xN0 Z (xf 5 zbU Z (xlv 0 zel Z Z (xz zaW Z (xmi Z (dK (TC.loopK (X:=Nat×Array Bool) [0,3,4,5,6,7,8,10,74,75] [0,1,2,3,4] (fun ⟨k,D⟩=>[(76,.int .i64 ((k:Nat):Int)),(9,.int .i64 (atN d (min o.u o.v) (max o.u o.v) k))]) (fun ⟨k,D⟩=>[(5,ownA encB 1 4 (.slice (some ⟨bk5,0,none⟩) l.S l.S) D)]) (fun ⟨k,D⟩=>(k<=d.size/\D.size=l.S)/\UsE d k D) (fun ⟨k,D⟩=>d.size - k) ((0,Array.replicate l.S false)) ⟨⟨Nat.zero_le _,by simp⟩,UsE.start⟩ ⟨Z,Z,Zt⟩ ⟨Z,Zt⟩ (fun y hI=>?_)))))))))
 obtain ⟨k,D⟩:=y
 obtain ⟨⟨hk,hDz⟩,hU⟩:=hI
 replace hk:k<=d.size:=hk
 replace hDz:D.size=l.S:=hDz
 replace hU:UsE d k D:=hU
 refine TC.sub (env':=[(76,_),(9,_),(0,_),(3,_),(4,_),(5,_),(6,_),(7,_),(8,_),(10,_),(74,_),(75,_)]) (L':=[(5,_),(0,_),(1,_),(2,_),(3,_),(4,_)]) ⟨Z,Z,Z,Z,Z,Z,Z,Z,Z,Z,Z,Z,Zt⟩ ⟨Z,Z,Z,Z,Z,Z,Zt⟩ (sA (TL.lss Z Z Z Z (fun q1=>?_) (fun q1=>?_)))
 refine dS (TC.condT Z (TC.skip (TQ.then (TC.seq (TC.block (sA (xmi Z (TL.iaO Z ha9 Z zaW (by omega) Z Z ?_))))))))
 refine TL.ldRx 2 [_,_,_,_,_] Z Z (zas ha9) (by omega) Z zeE Z Z (TL.alloc 6 (cs:=#[.int .i64 0,.int .i64 0,.int .i64 0,.int .i64 0,.bool false]) zkD Z Z Z (fun _=>Zt) (fun bk6=>(xai Z (TL.stW 6 5 [_,_,_,_,_] Z Z Z Z Z Z zeE Z Z Zt (dS ?_)))))
 obtain ⟨s,hs⟩:∃ s:Nat,d[k]!.slot=(s:Int):=⟨d[k]!.slot.toNat,by have:=hsl k (by omega); omega⟩
 have hsz:=hsl k (by omega)
 rw [hs]
 refine TC.region (xms Z (xf 0 zeY Z (xli 6 zaa Z Z (TL.iaO Z (fun _=>Z) Z zcI (by omega) Z Z (TL.stOF 5 (o:=0) (i:=s) (cur:=D[s]!) (u:=true) (by omega) Z Z Z Z (by omega) (Z) ⟨Z,Z⟩ Z zem Z Z Zt (dA (xf 1 zeX Z (xli 6 zaa Z Z ?_))))))))
 refine xmi Z (TL.eql Z Z Z Z (fun q2=>?_) (fun q2=>?_))
 refine xmt Z (xf 2 zge Z (xli 6 zaa Z Z (xmi Z (TL.eql Z Z Z Z (fun q3=>?_) (fun q3=>?_)))))
 refine xpT Z (TL.done (TQ.then (TC.condT Z (TC.region (xmi Z (xai Z (dI (TL.add (((k+1:Nat):Int)) Z Z (wrN (by omega)) Z Z ?_))))))))
 refine xmi Z (TL.done (TQ.roundK ((k+1,_)) ⟨⟨⟨(show k+1<=d.size by omega),(show (D.setIfInBounds _ _).size=l.S by simp; omega)⟩,hU.step hs⟩,(show d.size - (k+1)<d.size - k by omega)⟩ ⟨Z,congrArg (fun z=>some (Value.int .i64 z)) (zoM (by assumption) (by assumption)),Zt⟩ ⟨Z,Zt⟩ (kE8 Z Z Z Z Z Z Z Z (kE2 Z Z Zt)) (kL5 Z Z Z Z Z Zt)))
 refine xpG Z (TL.done (TQ.then (TC.condF Z (TC.skip (TQ.inBlock (TQ.then (TC.region (TL.add (((k+1:Nat):Int)) Z Z (wrN (by omega)) Z Z ?_))))))))
 refine xmi Z (TL.done (TQ.roundK ((k+1,_)) ⟨⟨⟨(show k+1<=d.size by omega),(show (D.setIfInBounds _ _).size=l.S by simp; omega)⟩,hU.step hs⟩,(show d.size - (k+1)<d.size - k by omega)⟩ ⟨Z,congrArg (fun z=>some (Value.int .i64 z)) (zuw (by assumption)),Zt⟩ ⟨Z,Zt⟩ (kE8 Z Z Z Z Z Z Z Z (kE2 Z Z Zt)) (kL5 Z Z Z Z Z Zt)))
 refine xmf Z (xo Z (xo Z (xo Z (xo Z (xpF Z (TL.done (TQ.then (TC.condF Z ?_))))))))
 refine TC.skip (TQ.inBlock (TQ.then (TC.region (TL.add (((k+1:Nat):Int)) Z Z (wrN (by omega)) Z Z (xmi Z (TL.done (TQ.roundK ((k+1,_)) ⟨⟨⟨(show k+1<=d.size by omega),(show (D.setIfInBounds _ _).size=l.S by simp; omega)⟩,hU.step hs⟩,(show d.size - (k+1)<d.size - k by omega)⟩ ⟨Z,congrArg (fun z=>some (Value.int .i64 z)) (zux (by assumption)),Zt⟩ ⟨Z,Zt⟩ (kE8 Z Z Z Z Z Z Z Z (kE2 Z Z Zt)) (kL5 Z Z Z Z Z Zt))))))))
 refine dS (TC.condF Z (TC.exit (TQ.thenExit (TQ.thenExit (TQ.blockHere (TQ.then (TC.seq ?_)))))))
 obtain rfl:k=d.size:=by omega
 refine TC.region (xmp Z (xN0 Z (xf 4 ze1 Z (xli 0 zaa Z Z (TL.bld [.int .i64 0,.int .i64 0] [(.int _ _),(.int _ _)] [_,_] zfT zjC ⟨Z,Z,Zt⟩ ⟨Z,Z⟩ Z Z (TL.alloc 7 (cs:=#[.int .i64 0,.int .i64 0]) zfT Z Z Z (fun _=>Zt) (fun bk7=>(TL.stW 7 2 [_,_] Z Z Z Z Z Z za7 Z Z Zt (dS ?_)))))))))
 refine TC.block (sA (xf 0 zd7 Z (xli 3 zaa Z Z (TL.eql Z Z Z Z (fun q2=>?_) (fun q2=>?_)))))
 refine xmt Z (xmi Z (TL.geq Z Z Z Z (fun q3=>?_) (fun q3=>?_)))
 refine xpT Z (xat Z (TL.done (TQ.then (TC.condT Z (TC.seq ?_)))))
 exact absurd (by exact hz ⟨by assumption,by assumption⟩:False) id
 refine xpG Z (xaf Z (TL.done (TQ.then (TC.condF Z (sA (xf 0 zd7 Z (xli 3 zaa Z Z (TL.eql Z Z Z Z (fun q4=>?_) (fun q4=>?_)))))))))
 refine xmt Z (xmi Z (TL.lss Z Z Z Z (fun q5=>?_) (fun q5=>?_)))
 refine xpT Z (xat Z (dT Z (xms Z (xz zcI Z (xmi Z (dK (TC.loopK (X:=Nat) [0,3,4,7,8,13,162,163] [0,1,2,3,4,5,7] (fun s=>[(164,.int .i64 ((s:Nat):Int))]) (fun s=>[]) (fun s=>s<=l.S) (fun s=>l.S - s) (0) (Nat.zero_le _) ⟨Z,Zt⟩ Zt (fun s hI=>(TC.sub (env':=[(164,_),(0,_),(3,_),(4,_),(7,_),(8,_),(13,_),(162,_),(163,_)]) (L':=[(0,_),(1,_),(2,_),(3,_),(4,_),(5,_),(7,_)]) ⟨Z,Z,Z,Z,Z,Z,Z,Z,Z,Zt⟩ ⟨Z,Z,Z,Z,Z,Z,Z,Zt⟩ ?_)))))))))
 refine sA (TL.lss Z Z Z Z (fun q6=>?_) (fun q6=>?_))
 refine dS (TC.condT Z (TC.skip (TQ.then (TC.seq (TC.block (sA (xmi Z (TL.iaO Z (fun _=>Z) Z zcI (by omega) Z Z ?_))))))))
 refine TL.ldRS 5 (.bool _) rfl rfl (zey (by omega)) (by omega) (rfl) zem rfl rfl (xai rfl (xab rfl (dA (xmb rfl (TL.cases rfl (fun q7=>?_) (fun q7=>?_))))))
 refine xnt Z (TL.done (TQ.then (TC.condF Z (TC.skip (TQ.inBlock (TQ.then (TC.region (TL.add (((s+1:Nat):Int)) Z Z (wrN (by omega)) Z Z ?_))))))))
 refine xmi Z (TL.done (TQ.roundK (s+1) ⟨by omega,by omega⟩ ⟨Z,Zt⟩ Zt (kE8 Z Z Z Z Z Z Z Z Zt) (kL7 Z Z Z Z Z Z Z Zt)))
 refine xnf Z (TL.done (TQ.then (TC.condT Z (TC.seq ?_))))
 exact absurd (by exact absurd ((hU _ (by omega)).2 (hz1 (by assumption) (by assumption) s (by omega))) (by simp_all):False) id
 refine dS (TC.condF Z (TC.exit (TQ.thenExit (TQ.thenExit (TQ.blockHere (TQ.inBlock (TQ.then (TC.seq ?_))))))))
 refine TC.nilA 8 (A:=ownA zax 3 34 (.slice none 0 0) ((#[]:Array Acc))) (.inl ⟨Z,Z⟩) (TC.nilA 9 (A:=rowS (.slice none 0 0) #[]) zbj (TC.nilA 10 (A:=rowS (.slice none 0 0) #[]) zbj (TC.region (TL.bld [.slice none 0 0,.int .i64 0,.bool false,.slice none 0 0] [] [_,_,_,_] zb3 zeW Zt ⟨Z,Z⟩ Z Z (TL.stW 4 4 [_,_,_,_] Z Z Z Z Z Z zat Z Z Zt (TL.asg (.slice none 0 0) Z Z Z (xaf Z (dR ?_))))))))
 refine FQ.retG (rs:=[.cell 4 50,.tmp 5,.tmp 6]) [(.agg _),(.slice none 0 0),(.bool false)] (Bs:=[_,_,_,_,_,_]) [0,1,2,8,9,10] Z ⟨⟨_,_,_,_,_,4,Z,Z,.inr ⟨4,[_,_,_,_],zat,Z,Z⟩⟩,Z,Z,Zt⟩ Z Z ⟨Z,Z,Z,Z,Z,Z,Zt⟩ ?_
 exact ⟨Z,Z⟩
 refine xpG Z (xaf Z (TL.done (TQ.then (TC.condF Z (TC.skip (TQ.inBlock (TQ.then (TC.seq ?_))))))))
 refine TC.nilA 11 (A:=ownA zax 3 34 (.slice none 0 0) ((#[]:Array Acc))) (.inl ⟨Z,Z⟩) (TC.nilA 12 (A:=rowS (.slice none 0 0) #[]) zbj (TC.nilA 13 (A:=rowS (.slice none 0 0) #[]) zbj (TC.region (TL.bld [.slice none 0 0,.int .i64 0,.bool false,.slice none 0 0] [] [_,_,_,_] zb3 zeW Zt ⟨Z,Z⟩ Z Z (TL.stW 4 4 [_,_,_,_] Z Z Z Z Z Z zat Z Z Zt (TL.asg (.slice none 0 0) Z Z Z (xaf Z (dR ?_))))))))
 refine FQ.retG (rs:=[.cell 4 50,.tmp 5,.tmp 6]) [(.agg _),(.slice none 0 0),(.bool false)] (Bs:=[_,_,_,_,_,_]) [0,1,2,11,12,13] Z ⟨⟨_,_,_,_,_,4,Z,Z,.inr ⟨4,[_,_,_,_],zat,Z,Z⟩⟩,Z,Z,Zt⟩ Z Z ⟨Z,Z,Z,Z,Z,Z,Zt⟩ ?_
 exact ⟨Z,Z⟩
 refine xmf Z (xo Z (xo Z (xpF Z (xaf Z (TL.done (TQ.then (TC.condF Z (TC.skip ?_))))))))
 refine TQ.inBlock (TQ.then (TC.seq (TC.nilA 14 (A:=ownA zax 3 34 (.slice none 0 0) ((#[]:Array Acc))) (.inl ⟨Z,Z⟩) (TC.nilA 15 (A:=rowS (.slice none 0 0) #[]) zbj (TC.nilA 16 (A:=rowS (.slice none 0 0) #[]) zbj (TC.region (TL.bld [.slice none 0 0,.int .i64 0,.bool false,.slice none 0 0] [] [_,_,_,_] zb3 zeW Zt ⟨Z,Z⟩ Z Z (TL.stW 4 4 [_,_,_,_] Z Z Z Z Z Z zat Z Z Zt ?_))))))))
 refine TL.asg (.slice none 0 0) Z Z Z (xaf Z (dR ?_))
 refine FQ.retG (rs:=[.cell 4 50,.tmp 5,.tmp 6]) [(.agg _),(.slice none 0 0),(.bool false)] (Bs:=[_,_,_,_,_,_]) [0,1,2,14,15,16] Z ⟨⟨_,_,_,_,_,4,Z,Z,.inr ⟨4,[_,_,_,_],zat,Z,Z⟩⟩,Z,Z,Zt⟩ Z Z ⟨Z,Z,Z,Z,Z,Z,Zt⟩ ?_
 exact ⟨Z,Z⟩
 refine xmf Z (xo Z (xo Z (xpF Z (xaf Z (TL.done (TQ.then (TC.condF Z (sA ?_))))))))
 refine xf 0 zd7 Z (xli 3 zaa Z Z (TL.eql Z Z Z Z (fun q3=>?_) (fun q3=>?_)))
 refine xmt Z (xmi Z (TL.lss Z Z Z Z (fun q4=>?_) (fun q4=>?_)))
 refine xpT Z (xat Z (dT Z (xms Z (xz zcI Z (xmi Z (dK (TC.loopK (X:=Nat) [0,3,4,7,8,13,162,163] [0,1,2,3,4,5,7] (fun s=>[(164,.int .i64 ((s:Nat):Int))]) (fun s=>[]) (fun s=>s<=l.S) (fun s=>l.S - s) (0) (Nat.zero_le _) ⟨Z,Zt⟩ Zt (fun s hI=>(TC.sub (env':=[(164,_),(0,_),(3,_),(4,_),(7,_),(8,_),(13,_),(162,_),(163,_)]) (L':=[(0,_),(1,_),(2,_),(3,_),(4,_),(5,_),(7,_)]) ⟨Z,Z,Z,Z,Z,Z,Z,Z,Z,Zt⟩ ⟨Z,Z,Z,Z,Z,Z,Z,Zt⟩ ?_)))))))))
 refine sA (TL.lss Z Z Z Z (fun q5=>?_) (fun q5=>?_))
 refine dS (TC.condT Z (TC.skip (TQ.then (TC.seq (TC.block (sA (xmi Z (TL.iaO Z (fun _=>Z) Z zcI (by omega) Z Z ?_))))))))
 refine TL.ldRS 5 (.bool _) rfl rfl (zey (by omega)) (by omega) (rfl) zem rfl rfl (xai rfl (xab rfl (dA (xmb rfl (TL.cases rfl (fun q6=>?_) (fun q6=>?_))))))
 refine xnt Z (TL.done (TQ.then (TC.condF Z (TC.skip (TQ.inBlock (TQ.then (TC.region (TL.add (((s+1:Nat):Int)) Z Z (wrN (by omega)) Z Z ?_))))))))
 refine xmi Z (TL.done (TQ.roundK (s+1) ⟨by omega,by omega⟩ ⟨Z,Zt⟩ Zt (kE8 Z Z Z Z Z Z Z Z Zt) (kL7 Z Z Z Z Z Z Z Zt)))
 refine xnf Z (TL.done (TQ.then (TC.condT Z (TC.seq ?_))))
 exact absurd (by exact absurd ((hU _ (by omega)).2 (hz1 (by assumption) (by assumption) s (by omega))) (by simp_all):False) id
 refine dS (TC.condF Z (TC.exit (TQ.thenExit (TQ.thenExit (TQ.blockHere (TQ.inBlock (TQ.then (TC.seq ?_))))))))
 refine TC.nilA 17 (A:=ownA zax 3 34 (.slice none 0 0) ((#[]:Array Acc))) (.inl ⟨Z,Z⟩) (TC.nilA 18 (A:=rowS (.slice none 0 0) #[]) zbj (TC.nilA 19 (A:=rowS (.slice none 0 0) #[]) zbj (TC.region (TL.bld [.slice none 0 0,.int .i64 0,.bool false,.slice none 0 0] [] [_,_,_,_] zb3 zeW Zt ⟨Z,Z⟩ Z Z (TL.stW 4 4 [_,_,_,_] Z Z Z Z Z Z zat Z Z Zt (TL.asg (.slice none 0 0) Z Z Z (xaf Z (dR ?_))))))))
 refine FQ.retG (rs:=[.cell 4 50,.tmp 5,.tmp 6]) [(.agg _),(.slice none 0 0),(.bool false)] (Bs:=[_,_,_,_,_,_]) [0,1,2,17,18,19] Z ⟨⟨_,_,_,_,_,4,Z,Z,.inr ⟨4,[_,_,_,_],zat,Z,Z⟩⟩,Z,Z,Zt⟩ Z Z ⟨Z,Z,Z,Z,Z,Z,Zt⟩ ?_
 exact ⟨Z,Z⟩
 refine xpG Z (xaf Z (TL.done (TQ.then (TC.condF Z (TC.skip (TQ.inBlock (TQ.then (TC.seq ?_))))))))
 refine TC.nilA 20 (A:=ownA zax 3 34 (.slice none 0 0) ((#[]:Array Acc))) (.inl ⟨Z,Z⟩) (TC.nilA 21 (A:=rowS (.slice none 0 0) #[]) zbj (TC.nilA 22 (A:=rowS (.slice none 0 0) #[]) zbj (TC.region (TL.bld [.slice none 0 0,.int .i64 0,.bool false,.slice none 0 0] [] [_,_,_,_] zb3 zeW Zt ⟨Z,Z⟩ Z Z (TL.stW 4 4 [_,_,_,_] Z Z Z Z Z Z zat Z Z Zt (TL.asg (.slice none 0 0) Z Z Z (xaf Z (dR ?_))))))))
 refine FQ.retG (rs:=[.cell 4 50,.tmp 5,.tmp 6]) [(.agg _),(.slice none 0 0),(.bool false)] (Bs:=[_,_,_,_,_,_]) [0,1,2,20,21,22] Z ⟨⟨_,_,_,_,_,4,Z,Z,.inr ⟨4,[_,_,_,_],zat,Z,Z⟩⟩,Z,Z,Zt⟩ Z Z ⟨Z,Z,Z,Z,Z,Z,Zt⟩ ?_
 exact ⟨Z,Z⟩
 refine xmf Z (xo Z (xo Z (xpF Z (xaf Z (TL.done (TQ.then (TC.condF Z (TC.skip ?_))))))))
 refine TQ.inBlock (TQ.then (TC.seq (TC.nilA 23 (A:=ownA zax 3 34 (.slice none 0 0) ((#[]:Array Acc))) (.inl ⟨Z,Z⟩) (TC.nilA 24 (A:=rowS (.slice none 0 0) #[]) zbj (TC.nilA 25 (A:=rowS (.slice none 0 0) #[]) zbj (TC.region (TL.bld [.slice none 0 0,.int .i64 0,.bool false,.slice none 0 0] [] [_,_,_,_] zb3 zeW Zt ⟨Z,Z⟩ Z Z (TL.stW 4 4 [_,_,_,_] Z Z Z Z Z Z zat Z Z Zt ?_))))))))
 refine TL.asg (.slice none 0 0) Z Z Z (xaf Z (dR ?_))
 refine FQ.retG (rs:=[.cell 4 50,.tmp 5,.tmp 6]) [(.agg _),(.slice none 0 0),(.bool false)] (Bs:=[_,_,_,_,_,_]) [0,1,2,23,24,25] Z ⟨⟨_,_,_,_,_,4,Z,Z,.inr ⟨4,[_,_,_,_],zat,Z,Z⟩⟩,Z,Z,Zt⟩ Z Z ⟨Z,Z,Z,Z,Z,Z,Zt⟩ ?_
 exact ⟨Z,Z⟩
set_option maxHeartbeats 1000000 in
theorem zvo {l:Lay} (hl:l.Ok) {pb ab mb:Nat} {tg:Int} {av:Value} {σ:Array UInt64} {d:Array EdR} {o:Op3} (hd:d.size<=100) (hsl:∀ j,j<d.size->0<=d[j]!.slot/\d[j]!.slot<l.S) (hv:¬(o.u=o.v\/o.u<0\/l.V<=o.u\/o.v<0\/l.V<=o.v)) {t:M} {D1:Array Int} (ht:t=zaN l σ (min o.u o.v) (max o.u o.v)) (hD:D1=zcG l σ (min o.u o.v) (max o.u o.v)) (htz:0<t.size/\t.size<=20000) (hk1:o.kind=1) (hat:atN d (min o.u o.v) (max o.u o.v) d.size<0) {s:Nat} (hs9:(s:Int)<l.S) (hno:∀ j,j<d.size->d[j]!.slot≠(s:Int)) (hlt:∀ q:Nat,q<s->∃ j,j<d.size/\d[j]!.slot=(q:Int)) {b:Bool} {τ:Tr} {P:PlanS} (hg:zbu l ⟨1,tg⟩ 561 (⟨t,#[]⟩:Tr) s o.u o.v=some (b,τ)) (hP:planF l ⟨1,tg⟩ 561 D1 b o.u o.v τ=some P) (hne:0<τ.row.size):Go.Eng.Fn Tryz.prog 54 [.pointer (some ⟨pb,0,none⟩),.agg #[.int .i64 o.kind,.int .i64 o.u,.int .i64 o.v]] [pt pb (.cells #[.int .i64 l.V,.int .i64 l.S,.int .i64 l.T,.pointer (some ⟨ab,0,none⟩),.int .i64 (tg),av] 57),zap ab mb 139 29 (σ),ownA encE 5 80 av d] (fun x Bs=>∃ xa xc ya yc va v2,x=.tuple #[.agg #[.slice xa (P).work.size xc,.int .i64 (P).point,.bool (P).tree,.slice ya (P).roots.size yc],va,.bool true]/\Bs=[pt pb (.cells #[.int .i64 l.V,.int .i64 l.S,.int .i64 l.T,.pointer (some ⟨ab,0,none⟩),.int .i64 (tg),v2] 57),zap ab mb 139 29 (t),ownA encE 5 80 v2 (d++#[⟨(s:Int),min o.u o.v,max o.u o.v,0,false⟩]),ownA zax 3 34 (.slice xa (P).work.size xc) (P.work),rowS (.slice ya (P).roots.size yc) P.roots,rowS va D1]):=by
 have hb:=zei hl
 have hDs:D1.size<=2:=by rw [hD]; exact zdY
 refine Fn.enter (Tryz.func54) Z Z (fun w0 R=>?_)
 refine sA (xB 3 Z (fun bk3=>(TL.alloc 4 (cs:=#[.slice none 0 0,.int .i64 0,.bool false,.slice none 0 0]) zb3 Z Z Z (fun _=>Zt) (fun bk4=>(TL.asg (.slice none 0 0) Z Z Z (xaf Z (dS (TC.seq (TC.draw (od [1,3,5,7,9,11,13,15,17,19,21,23,25,27,29,31,33,35,37,39,41,43,45,47,49,51,53,55,57,59,61,63,65,67,69]) [0,3] fc_m (by kernel_rfl) (xf 1 zaU Z ?_))))))))))
 refine xli 3 zaa Z Z (xf 2 zaT Z (xli 3 zaa Z Z (TL.eqlF Z Z (by omega) Z Z (xmf Z (xf 1 zaU Z (xli 3 zaa Z Z (TL.lssF Z Z (by omega) Z Z (xpF Z ?_))))))))
 refine xmf Z (xf 1 zaU Z (xli 3 zaa Z Z (xmp Z (xN0 Z (xf 0 zaL Z (xf 0 zaH Z (xli 0 zaa Z Z (TL.geqF Z Z (by omega) Z Z ?_))))))))
 refine xpF Z (xmf Z (xf 2 zaT Z (xli 3 zaa Z Z (TL.lssF Z Z (by omega) Z Z (xpF Z (xmf Z (xf 2 zaT Z (xli 3 zaa Z Z ?_))))))))
 refine xmp Z (xN0 Z (xf 0 zaL Z (xf 0 zaH Z (xli 0 zaa Z Z (TL.geqF Z Z (by omega) Z Z (xpF Z (TL.done (TQ.then ?_))))))))
 refine TC.condF Z (TC.skip (TQ.then (TC.seq (TC.draw (od [1,3,5,7,9,11,13,15,17,19,21,23]) [3] fc_m (by kernel_rfl) (xf 1 zaU Z (xli 3 zaa Z Z (xf 2 zaT Z (xli 3 zaa Z Z ?_))))))))
 refine TL.min2 Z Z Z Z (xf 1 zaU Z (xli 3 zaa Z Z (xf 2 zaT Z (xli 3 zaa Z Z (TL.max2 Z Z Z Z (xai Z (xai Z (dS ?_))))))))
 refine TC.draw (od [1,3,5,7,9,13,10,15]) [0] fc_m (by kernel_rfl) (xmp Z (xN0 Z (xf 0 zaL Z (xf 1 zbD Z (xli 0 zaa Z Z (xai Z (TL.mkO 5 (enc:=encB) (N:=l.S) (false) Z Z zhV zyu Z (by decide) (by omega) Z Z (fun bk5=>⟨(kL1 Z Zt),?_⟩))))))))
 refine xas Z (dS (TC.seq (TC.ownW 2 Z (fun a9 g9 c9 hv9 hc9 ha9=>?_))))
 cases hv9
 refine TC.region (xmp Z (xN0 Z (xf 5 zbU Z (xlv 0 zel Z Z (xz zaW Z (xmi Z (dK (TC.loopK (X:=Nat×Array Bool) [0,3,4,5,6,7,8,10,74,75] [0,1,2,3,4] (fun ⟨k,D⟩=>[(76,.int .i64 ((k:Nat):Int)),(9,.int .i64 (atN d (min o.u o.v) (max o.u o.v) k))]) (fun ⟨k,D⟩=>[(5,ownA encB 1 4 (.slice (some ⟨bk5,0,none⟩) l.S l.S) D)]) (fun ⟨k,D⟩=>(k<=d.size/\D.size=l.S)/\UsE d k D) (fun ⟨k,D⟩=>d.size - k) ((0,Array.replicate l.S false)) ⟨⟨Nat.zero_le _,by simp⟩,UsE.start⟩ ⟨Z,Z,Zt⟩ ⟨Z,Zt⟩ (fun y hI=>?_)))))))))
 obtain ⟨k,D⟩:=y
 obtain ⟨⟨hk,hDz⟩,hU⟩:=hI
 replace hk:k<=d.size:=hk
 replace hDz:D.size=l.S:=hDz
 replace hU:UsE d k D:=hU
 refine TC.sub (env':=[(76,_),(9,_),(0,_),(3,_),(4,_),(5,_),(6,_),(7,_),(8,_),(10,_),(74,_),(75,_)]) (L':=[(5,_),(0,_),(1,_),(2,_),(3,_),(4,_)]) ⟨Z,Z,Z,Z,Z,Z,Z,Z,Z,Z,Z,Z,Zt⟩ ⟨Z,Z,Z,Z,Z,Z,Zt⟩ (sA (TL.lss Z Z Z Z (fun q1=>?_) (fun q1=>?_)))
 refine dS (TC.condT Z (TC.skip (TQ.then (TC.seq (TC.block (sA (xmi Z (TL.iaO Z ha9 Z zaW (by omega) Z Z ?_))))))))
 refine TL.ldRx 2 [_,_,_,_,_] Z Z (zas ha9) (by omega) Z zeE Z Z (TL.alloc 6 (cs:=#[.int .i64 0,.int .i64 0,.int .i64 0,.int .i64 0,.bool false]) zkD Z Z Z (fun _=>Zt) (fun bk6=>(xai Z (TL.stW 6 5 [_,_,_,_,_] Z Z Z Z Z Z zeE Z Z Zt (dS ?_)))))
 obtain ⟨s2,hs⟩:∃ s2:Nat,d[k]!.slot=(s2:Int):=⟨d[k]!.slot.toNat,by have:=hsl k (by omega); omega⟩
 have hsz:=hsl k (by omega)
 rw [hs]
 refine TC.region (xms Z (xf 0 zeY Z (xli 6 zaa Z Z (TL.iaO Z (fun _=>Z) Z zcI (by omega) Z Z (TL.stOF 5 (o:=0) (i:=s2) (cur:=D[s2]!) (u:=true) (by omega) Z Z Z Z (by omega) (Z) ⟨Z,Z⟩ Z zem Z Z Zt (dA (xf 1 zeX Z (xli 6 zaa Z Z ?_))))))))
 refine xmi Z (TL.eql Z Z Z Z (fun q2=>?_) (fun q2=>?_))
 refine xmt Z (xf 2 zge Z (xli 6 zaa Z Z (xmi Z (TL.eql Z Z Z Z (fun q3=>?_) (fun q3=>?_)))))
 refine xpT Z (TL.done (TQ.then (TC.condT Z (TC.region (xmi Z (xai Z (dI (TL.add (((k+1:Nat):Int)) Z Z (wrN (by omega)) Z Z ?_))))))))
 refine xmi Z (TL.done (TQ.roundK ((k+1,_)) ⟨⟨⟨(show k+1<=d.size by omega),(show (D.setIfInBounds _ _).size=l.S by simp; omega)⟩,hU.step hs⟩,(show d.size - (k+1)<d.size - k by omega)⟩ ⟨Z,congrArg (fun z=>some (Value.int .i64 z)) (zoM (by assumption) (by assumption)),Zt⟩ ⟨Z,Zt⟩ (kE8 Z Z Z Z Z Z Z Z (kE2 Z Z Zt)) (kL5 Z Z Z Z Z Zt)))
 refine xpG Z (TL.done (TQ.then (TC.condF Z (TC.skip (TQ.inBlock (TQ.then (TC.region (TL.add (((k+1:Nat):Int)) Z Z (wrN (by omega)) Z Z ?_))))))))
 refine xmi Z (TL.done (TQ.roundK ((k+1,_)) ⟨⟨⟨(show k+1<=d.size by omega),(show (D.setIfInBounds _ _).size=l.S by simp; omega)⟩,hU.step hs⟩,(show d.size - (k+1)<d.size - k by omega)⟩ ⟨Z,congrArg (fun z=>some (Value.int .i64 z)) (zuw (by assumption)),Zt⟩ ⟨Z,Zt⟩ (kE8 Z Z Z Z Z Z Z Z (kE2 Z Z Zt)) (kL5 Z Z Z Z Z Zt)))
 refine xmf Z (xo Z (xo Z (xo Z (xo Z (xpF Z (TL.done (TQ.then (TC.condF Z ?_))))))))
 refine TC.skip (TQ.inBlock (TQ.then (TC.region (TL.add (((k+1:Nat):Int)) Z Z (wrN (by omega)) Z Z (xmi Z (TL.done (TQ.roundK ((k+1,_)) ⟨⟨⟨(show k+1<=d.size by omega),(show (D.setIfInBounds _ _).size=l.S by simp; omega)⟩,hU.step hs⟩,(show d.size - (k+1)<d.size - k by omega)⟩ ⟨Z,congrArg (fun z=>some (Value.int .i64 z)) (zux (by assumption)),Zt⟩ ⟨Z,Zt⟩ (kE8 Z Z Z Z Z Z Z Z (kE2 Z Z Zt)) (kL5 Z Z Z Z Z Zt))))))))
 refine dS (TC.condF Z (TC.exit (TQ.thenExit (TQ.thenExit (TQ.blockHere (TQ.then (TC.seq ?_)))))))
 obtain rfl:k=d.size:=by omega
 refine TC.region (xmp Z (xN0 Z (xf 4 ze1 Z (xli 0 zaa Z Z (TL.bld [.int .i64 0,.int .i64 0] [(.int _ _),(.int _ _)] [_,_] zfT zjC ⟨Z,Z,Zt⟩ ⟨Z,Z⟩ Z Z (TL.alloc 7 (cs:=#[.int .i64 0,.int .i64 0]) zfT Z Z Z (fun _=>Zt) (fun bk7=>(TL.stW 7 2 [_,_] Z Z Z Z Z Z za7 Z Z Zt (dS ?_)))))))))
 refine TC.block (sA (xf 0 zd7 Z (xli 3 zaa Z Z (TL.eqlF Z Z (by omega) Z Z (xmf Z (xo Z (xo Z (xpF Z ?_))))))))
 refine xaf Z (TL.done (TQ.then (TC.condF Z (sA (xf 0 zd7 Z (xli 3 zaa Z Z (TL.eqlT Z Z (by omega) Z Z (xmt Z ?_))))))))
 refine xmi Z (TL.lssT Z Z (by omega) Z Z (xpT Z (xat Z (dT Z (xms Z (xz zcI Z (xmi Z (dK ?_))))))))
 refine TC.loopK (X:=Nat) [0,3,4,7,8,13,162,163] [0,1,2,3,4,5,7] (fun q=>[(164,.int .i64 ((q:Nat):Int))]) (fun q=>[]) (fun q=>q<=s) (fun q=>l.S - q) (0) (Nat.zero_le _) ⟨Z,Zt⟩ Zt (fun q hI=>(TC.sub (env':=[(164,_),(0,_),(3,_),(4,_),(7,_),(8,_),(13,_),(162,_),(163,_)]) (L':=[(0,_),(1,_),(2,_),(3,_),(4,_),(5,_),(7,_)]) ⟨Z,Z,Z,Z,Z,Z,Z,Z,Z,Zt⟩ ⟨Z,Z,Z,Z,Z,Z,Z,Zt⟩ (sA (TL.lss Z Z Z Z (fun q2=>?_) (fun q2=>?_)))))
 refine dS (TC.condT Z (TC.skip (TQ.then (TC.seq (TC.block (sA (xmi Z (TL.iaO Z (fun _=>Z) Z zcI (by omega) Z Z ?_))))))))
 refine TL.ldRS 5 (.bool _) rfl rfl (zey (by omega)) (by omega) (rfl) zem rfl rfl (xai rfl (xab rfl (dA (xmb rfl (TL.cases rfl (fun q3=>?_) (fun q3=>?_))))))
 refine xnt Z (TL.done (TQ.then (TC.condF Z (TC.skip (TQ.inBlock (TQ.then (TC.region (TL.add (((q+1:Nat):Int)) Z Z (wrN (by omega)) Z Z ?_))))))))
 refine xmi Z (TL.done (TQ.roundK (q+1) ⟨hU.more hDz (by omega) hI hno q3,by omega⟩ ⟨Z,Zt⟩ Zt (kE8 Z Z Z Z Z Z Z Z Zt) (kL7 Z Z Z Z Z Z Z Zt)))
 refine xnf Z (TL.done (TQ.then (TC.condT Z (TC.seq ?_))))
 obtain rfl:s=q:=(hU.first hDz (by omega) hI hlt q3).symm
 refine TC.region (xmp Z (xmp Z (xN0 Z (xf 5 zbU Z (xlv 0 zel Z Z (xmi Z (xmi Z (xmi Z ?_))))))))
 refine TL.bld [.int .i64 0,.int .i64 0,.int .i64 0,.int .i64 0,.bool false] [(.int _ _),(.int _ _),(.int _ _)] [_,_,_,_,_] zkD zAC ⟨Z,Z,Z,Zt⟩ ⟨Z,Z⟩ Z Z (TL.bsN 8 [_] (encE ⟨(s:Int),min o.u o.v,max o.u o.v,0,false⟩) zaW zkD ⟨Z,Zt⟩ Z (lit1 Z) Z Z (fun bk8=>⟨Zt,?_⟩))
 refine TL.appS 2 8 (d2:=#[⟨(s:Int),min o.u o.v,max o.u o.v,0,false⟩]) Z (Z) Z (fun _=>Z) Z Z (row1 Z) zgi (by decide) zdu (by simp; omega) Z Z (fun v9=>⟨Zt,?_⟩)
 refine TL.ownW 2 Z (fun a6 g6 c6 hv6 _ _=>?_)
 cases hv6
 refine xN0 Z (xf 5 zbU Z (TL.st 0 #[_,_,_,_,_,_] _ Z Z Z Z Z Z zel Z Z Zt (dA (xmp Z (xmi Z (xmi Z (TL.call [0,1] [0,1,10] (zjt hl) ⟨Z,Z,Z,Zt⟩ ⟨Z,Z,Zt⟩ ztg Z Z Z Z ?_)))))))
 rintro r9 Bs rfl
 refine ⟨Z,Zt,?_⟩
 rw [show zbl l (zau (zaP l σ (min o.u o.v)) (zaP l σ (max o.u o.v))) [] 1 (zau (zaP l σ (min o.u o.v)) (zaP l σ (max o.u o.v))).size σ=t from ht.symm]
 rw [show zau (zaP l σ (min o.u o.v)) (zaP l σ (max o.u o.v))=D1 from hD.symm]
 refine TL.rowS 10 Z (fun a7 b7 o7 c7 hv7 hc7 ha7=>⟨Zt,?_⟩)
 cases hv7
 refine xas Z (dS (TC.draw (od [1,3,5,7,9,11,13,15,17,19,21,23,25,27,29,33,30,34,37,39]) [0,3,7] fc_m (by kernel_rfl) (xmp Z (xN0 Z (xf 3 zbK Z (xlp 0 zdl Z Z (xmp Z (xN0 Z ?_))))))))
 refine xf 0 zaL Z (xL3 0 zac Z Z (xL2 7 za7 Z Z (xms Z (xmi Z (xf 1 zaU Z (xli 3 zaa Z Z (xf 2 zaT Z (xli 3 zaa Z Z ?_))))))))
 refine xms Z (TL.openE 1 Z (fun n0=>⟨(kL3 Z Z Z Zt),?_⟩))
 refine TL.call [1,10] [1,10,11,12] (zhC (p:=⟨1,tg⟩) hl ha7 hDs Z zdp htz.1 htz.2 hg hP hne) ⟨Z,Z,Z,Z,Z,Z,Z,Zt⟩ ⟨Z,Z,Zt⟩ ztf Z Z Z Z ?_
 rintro r9 Bs ⟨xa,xc,ya,yc,rfl,rfl⟩
 refine ⟨Z,(kL3 Z Z Z Zt),?_⟩
 refine TL.conseq 1 (B:=zap ab mb 139 29 (t)) Z (fun h hh=>zdF hh) (kL3 Z Z Z Zt) (TL.stW 4 4 [_,_,_,_] Z Z Z Z Z Z zat Z Z (kL3 Z Z Z Zt) (xas Z (xat Z (dR (TQ.blockRet (TQ.thenRet (TQ.thenRet (TQ.blockRet ?_))))))))
 refine TQ.blockRet (TQ.thenRet (TQ.conseq 10 (B:=rowS _ D1) Z (fun _ h=>⟨_,_,_,_,Z,hc7,ha7,h⟩) ?_))
 refine FQ.retG (rs:=[.cell 4 50,.tmp 5,.tmp 6]) [(.agg _),(.slice _ _ _),(.bool true)] (Bs:=[_,_,_,_,_,_]) [0,1,2,11,12,10] Z ⟨⟨_,_,_,_,_,4,Z,Z,.inr ⟨4,[_,_,_,_],zat,Z,Z⟩⟩,Z,Z,Zt⟩ Z Z ⟨Z,Z,Z,Z,Z,Z,Zt⟩ ?_
 exact ⟨_,_,_,_,_,_,Z,Z⟩
 refine dS (TC.condF Z (TC.exit (TQ.thenExit (TQ.thenExit (TQ.blockHere (TQ.inBlock (TQ.then (TC.seq ?_))))))))
 exact absurd (by omega:False) id
set_option maxHeartbeats 1000000 in
theorem zvp {l:Lay} (hl:l.Ok) {pb ab mb:Nat} {tg:Int} {av:Value} {σ:Array UInt64} {d:Array EdR} {o:Op3} (hd:d.size<=100) (hsl:∀ j,j<d.size->0<=d[j]!.slot/\d[j]!.slot<l.S) (hv:¬(o.u=o.v\/o.u<0\/l.V<=o.u\/o.v<0\/l.V<=o.v)) {t:M} {D1:Array Int} (ht:t=zaN l σ (min o.u o.v) (max o.u o.v)) (hD:D1=zcG l σ (min o.u o.v) (max o.u o.v)) (htz:0<t.size/\t.size<=20000) (hk1:o.kind=2) {i:Nat} (hi:i<d.size) (hat:atN d (min o.u o.v) (max o.u o.v) d.size=(i:Int)) {q:Int} {b ok:Bool} {τ:Tr} {P:PlanS} (hg:zbv l ⟨1,tg⟩ 561 (⟨t,#[]⟩:Tr) d[i]!.slot=some ((b,q,ok),τ)) (hP:planF l ⟨1,tg⟩ 561 D1 b (eget l t d[i]!.slot).u (eget l t d[i]!.slot).v τ=some P) (hne:0<τ.row.size):Go.Eng.Fn Tryz.prog 54 [.pointer (some ⟨pb,0,none⟩),.agg #[.int .i64 o.kind,.int .i64 o.u,.int .i64 o.v]] [pt pb (.cells #[.int .i64 l.V,.int .i64 l.S,.int .i64 l.T,.pointer (some ⟨ab,0,none⟩),.int .i64 (tg),av] 57),zap ab mb 139 29 (σ),ownA encE 5 80 av d] (fun x Bs=>∃ xa xc ya yc va v2,x=.tuple #[.agg #[.slice xa (P).work.size xc,.int .i64 (P).point,.bool (P).tree,.slice ya (P).roots.size yc],va,.bool true]/\Bs=[pt pb (.cells #[.int .i64 l.V,.int .i64 l.S,.int .i64 l.T,.pointer (some ⟨ab,0,none⟩),.int .i64 (tg),v2] 57),zap ab mb 139 29 (t),ownA encE 5 80 v2 (cutA d i),ownA zax 3 34 (.slice xa (P).work.size xc) (P.work),rowS (.slice ya (P).roots.size yc) P.roots,rowS va D1]):=by
 have hb:=zei hl
 have hDs:D1.size<=2:=by rw [hD]; exact zdY
 refine Fn.enter (Tryz.func54) Z Z (fun w0 R=>?_)
 refine sA (xB 3 Z (fun bk3=>(TL.alloc 4 (cs:=#[.slice none 0 0,.int .i64 0,.bool false,.slice none 0 0]) zb3 Z Z Z (fun _=>Zt) (fun bk4=>(TL.asg (.slice none 0 0) Z Z Z (xaf Z (dS (TC.seq (TC.draw (od [1,3,5,7,9,11,13,15,17,19,21,23,25,27,29,31,33,35,37,39,41,43,45,47,49,51,53,55,57,59,61,63,65,67,69]) [0,3] fc_m (by kernel_rfl) (xf 1 zaU Z ?_))))))))))
 refine xli 3 zaa Z Z (xf 2 zaT Z (xli 3 zaa Z Z (TL.eqlF Z Z (by omega) Z Z (xmf Z (xf 1 zaU Z (xli 3 zaa Z Z (TL.lssF Z Z (by omega) Z Z (xpF Z ?_))))))))
 refine xmf Z (xf 1 zaU Z (xli 3 zaa Z Z (xmp Z (xN0 Z (xf 0 zaL Z (xf 0 zaH Z (xli 0 zaa Z Z (TL.geqF Z Z (by omega) Z Z ?_))))))))
 refine xpF Z (xmf Z (xf 2 zaT Z (xli 3 zaa Z Z (TL.lssF Z Z (by omega) Z Z (xpF Z (xmf Z (xf 2 zaT Z (xli 3 zaa Z Z ?_))))))))
 refine xmp Z (xN0 Z (xf 0 zaL Z (xf 0 zaH Z (xli 0 zaa Z Z (TL.geqF Z Z (by omega) Z Z (xpF Z (TL.done (TQ.then ?_))))))))
 refine TC.condF Z (TC.skip (TQ.then (TC.seq (TC.draw (od [1,3,5,7,9,11,13,15,17,19,21,23]) [3] fc_m (by kernel_rfl) (xf 1 zaU Z (xli 3 zaa Z Z (xf 2 zaT Z (xli 3 zaa Z Z ?_))))))))
 refine TL.min2 Z Z Z Z (xf 1 zaU Z (xli 3 zaa Z Z (xf 2 zaT Z (xli 3 zaa Z Z (TL.max2 Z Z Z Z (xai Z (xai Z (dS ?_))))))))
 refine TC.draw (od [1,3,5,7,9,13,10,15]) [0] fc_m (by kernel_rfl) (xmp Z (xN0 Z (xf 0 zaL Z (xf 1 zbD Z (xli 0 zaa Z Z (xai Z (TL.mkO 5 (enc:=encB) (N:=l.S) (false) Z Z zhV zyu Z (by decide) (by omega) Z Z (fun bk5=>⟨(kL1 Z Zt),?_⟩))))))))
 refine xas Z (dS (TC.seq (TC.ownW 2 Z (fun a9 g9 c9 hv9 hc9 ha9=>?_))))
 cases hv9
 obtain rfl:=ha9 (by omega)
 refine TC.region (xmp Z (xN0 Z (xf 5 zbU Z (xlv 0 zel Z Z (xz zaW Z (xmi Z (dK (TC.loopK (X:=Nat×Array Bool) [0,3,4,5,6,7,8,10,74,75] [0,1,2,3,4] (fun ⟨k,D⟩=>[(76,.int .i64 ((k:Nat):Int)),(9,.int .i64 (atN d (min o.u o.v) (max o.u o.v) k))]) (fun ⟨k,D⟩=>[(5,ownA encB 1 4 (.slice (some ⟨bk5,0,none⟩) l.S l.S) D)]) (fun ⟨k,D⟩=>(k<=d.size/\D.size=l.S)/\UsE d k D) (fun ⟨k,D⟩=>d.size - k) ((0,Array.replicate l.S false)) ⟨⟨Nat.zero_le _,by simp⟩,UsE.start⟩ ⟨Z,Z,Zt⟩ ⟨Z,Zt⟩ (fun y hI=>?_)))))))))
 obtain ⟨k,D⟩:=y
 obtain ⟨⟨hk,hDz⟩,hU⟩:=hI
 replace hk:k<=d.size:=hk
 replace hDz:D.size=l.S:=hDz
 replace hU:UsE d k D:=hU
 refine TC.sub (env':=[(76,_),(9,_),(0,_),(3,_),(4,_),(5,_),(6,_),(7,_),(8,_),(10,_),(74,_),(75,_)]) (L':=[(5,_),(0,_),(1,_),(2,_),(3,_),(4,_)]) ⟨Z,Z,Z,Z,Z,Z,Z,Z,Z,Z,Z,Z,Zt⟩ ⟨Z,Z,Z,Z,Z,Z,Zt⟩ (sA (TL.lss Z Z Z Z (fun q1=>?_) (fun q1=>?_)))
 refine dS (TC.condT Z (TC.skip (TQ.then (TC.seq (TC.block (sA (xmi Z (TL.iaO Z ha9 Z zaW (by omega) Z Z ?_))))))))
 refine TL.ldRx 2 [_,_,_,_,_] Z Z (zas ha9) (by omega) Z zeE Z Z (TL.alloc 6 (cs:=#[.int .i64 0,.int .i64 0,.int .i64 0,.int .i64 0,.bool false]) zkD Z Z Z (fun _=>Zt) (fun bk6=>(xai Z (TL.stW 6 5 [_,_,_,_,_] Z Z Z Z Z Z zeE Z Z Zt (dS ?_)))))
 obtain ⟨s,hs⟩:∃ s:Nat,d[k]!.slot=(s:Int):=⟨d[k]!.slot.toNat,by have:=hsl k (by omega); omega⟩
 have hsz:=hsl k (by omega)
 rw [hs]
 refine TC.region (xms Z (xf 0 zeY Z (xli 6 zaa Z Z (TL.iaO Z (fun _=>Z) Z zcI (by omega) Z Z (TL.stOF 5 (o:=0) (i:=s) (cur:=D[s]!) (u:=true) (by omega) Z Z Z Z (by omega) (Z) ⟨Z,Z⟩ Z zem Z Z Zt (dA (xf 1 zeX Z (xli 6 zaa Z Z ?_))))))))
 refine xmi Z (TL.eql Z Z Z Z (fun q2=>?_) (fun q2=>?_))
 refine xmt Z (xf 2 zge Z (xli 6 zaa Z Z (xmi Z (TL.eql Z Z Z Z (fun q3=>?_) (fun q3=>?_)))))
 refine xpT Z (TL.done (TQ.then (TC.condT Z (TC.region (xmi Z (xai Z (dI (TL.add (((k+1:Nat):Int)) Z Z (wrN (by omega)) Z Z ?_))))))))
 refine xmi Z (TL.done (TQ.roundK ((k+1,_)) ⟨⟨⟨(show k+1<=d.size by omega),(show (D.setIfInBounds _ _).size=l.S by simp; omega)⟩,hU.step hs⟩,(show d.size - (k+1)<d.size - k by omega)⟩ ⟨Z,congrArg (fun z=>some (Value.int .i64 z)) (zoM (by assumption) (by assumption)),Zt⟩ ⟨Z,Zt⟩ (kE8 Z Z Z Z Z Z Z Z (kE2 Z Z Zt)) (kL5 Z Z Z Z Z Zt)))
 refine xpG Z (TL.done (TQ.then (TC.condF Z (TC.skip (TQ.inBlock (TQ.then (TC.region (TL.add (((k+1:Nat):Int)) Z Z (wrN (by omega)) Z Z ?_))))))))
 refine xmi Z (TL.done (TQ.roundK ((k+1,_)) ⟨⟨⟨(show k+1<=d.size by omega),(show (D.setIfInBounds _ _).size=l.S by simp; omega)⟩,hU.step hs⟩,(show d.size - (k+1)<d.size - k by omega)⟩ ⟨Z,congrArg (fun z=>some (Value.int .i64 z)) (zuw (by assumption)),Zt⟩ ⟨Z,Zt⟩ (kE8 Z Z Z Z Z Z Z Z (kE2 Z Z Zt)) (kL5 Z Z Z Z Z Zt)))
 refine xmf Z (xo Z (xo Z (xo Z (xo Z (xpF Z (TL.done (TQ.then (TC.condF Z ?_))))))))
 refine TC.skip (TQ.inBlock (TQ.then (TC.region (TL.add (((k+1:Nat):Int)) Z Z (wrN (by omega)) Z Z (xmi Z (TL.done (TQ.roundK ((k+1,_)) ⟨⟨⟨(show k+1<=d.size by omega),(show (D.setIfInBounds _ _).size=l.S by simp; omega)⟩,hU.step hs⟩,(show d.size - (k+1)<d.size - k by omega)⟩ ⟨Z,congrArg (fun z=>some (Value.int .i64 z)) (zux (by assumption)),Zt⟩ ⟨Z,Zt⟩ (kE8 Z Z Z Z Z Z Z Z (kE2 Z Z Zt)) (kL5 Z Z Z Z Z Zt))))))))
 refine dS (TC.condF Z (TC.exit (TQ.thenExit (TQ.thenExit (TQ.blockHere (TQ.then (TC.seq ?_)))))))
 obtain rfl:k=d.size:=by omega
 rw [hat]
 refine TC.region (xmp Z (xN0 Z (xf 4 ze1 Z (xli 0 zaa Z Z (TL.bld [.int .i64 0,.int .i64 0] [(.int _ _),(.int _ _)] [_,_] zfT zjC ⟨Z,Z,Zt⟩ ⟨Z,Z⟩ Z Z (TL.alloc 7 (cs:=#[.int .i64 0,.int .i64 0]) zfT Z Z Z (fun _=>Zt) (fun bk7=>(TL.stW 7 2 [_,_] Z Z Z Z Z Z za7 Z Z Zt (dS ?_)))))))))
 refine TC.block (sA (xf 0 zd7 Z (xli 3 zaa Z Z (TL.eqlT Z Z (by omega) Z Z (xmt Z (xmi Z (TL.geqT Z Z (by omega) Z Z (xpT Z ?_))))))))
 refine xat Z (dT Z (xmp Z (xN0 Z (xf 5 zbU Z (xlv 0 zel Z Z (xmi Z (TL.iaO Z ha9 Z zaW (by omega) Z Z (xf 0 zeY Z ?_))))))))
 refine TL.ldRF 2 (.int _ _) Z Z (zas ha9) (by omega) (zoB _).1 Z zaa Z Z (xai Z (dS ?_))
 have hAa:za8 (ownA encE 5 80 (.slice (some ⟨g9,0,none⟩) d.size c9) d) encE 5 g9 0 d.size (fun i=>d[i]!):=zas ha9
 refine TC.draw2 [(0,true),(2,true),(3,true),(4,true),(5,true),(6,true),(7,true),(9,true),(10,true),(11,true),(12,true),(13,true),(14,true),(15,true),(1,false),(8,false),(16,false),(17,true),(18,true)] 19 [] [0] fc_m (by kernel_rfl) (xmp Z (xmp Z (xN0 Z (xf 5 zbU Z (xlv 0 zel Z Z (xmi Z (TL.slHi Z Z zaW (by omega) Z Z (xmp Z ?_))))))))
 refine xN0 Z (xf 5 zbU Z (xlv 0 zel Z Z (xmi Z (TL.add (((i+1:Nat):Int)) Z Z (wrN (by omega)) Z Z (TL.slLo Z Z zaW (by omega) Z Z (TL.bs0 8 encE zaW Z Z (fun bk8=>⟨(kL1 Z Zt),?_⟩)))))))
 obtain ⟨ad0,had0⟩:=zo3 (ad:=⟨g9,0,none⟩) (i:=0) (size:=5) (cap:=c9)
 rw [had0]
 refine TL.appS 8 2 (d2:=rngE (fun j=>d[j]!) i) Z (zbT _ _) Z (fun h=>had0.symm.trans (zfL (len:=d.size) (i:=0) ha9 hc9 (by omega))) Z Z ((hAa.take (m:=i) (by omega)).congr fun j hj=>(zg0 _ hj).symm) zgi (by decide) zdu (by rw [zbT]; simp; omega) Z Z (fun v9=>⟨(kL1 Z Zt),?_⟩)
 obtain ⟨ad,had⟩:=zo3 (ad:=⟨g9,0,none⟩) (i:=i+1) (size:=5) (cap:=c9)
 rw [had]
 refine TL.appS 8 2 (d2:=rngE (fun j=>d[i+1+j]!) (d.size - (i+1))) Z (zbT _ _) Z (fun h=>had.symm.trans (zfL (len:=d.size) ha9 hc9 h)) Z Z ((hAa.drop (i+1) (d.size - (i+1)) (by omega)).congr fun j hj=>(zg0 (fun j=>d[i+1+j]!) hj).symm) zgi (by decide) zdu (by rw [zbT]; simp [zbT]; omega) Z Z (fun v10=>⟨(kL1 Z Zt),?_⟩)
 have hcut:(#[]:Array EdR)++rngE (fun j=>d[j]!) i++rngE (fun j=>d[i+1+j]!) (d.size - (i+1))=cutA d i:=by unfold cutA; simp only [Array.empty_append]
 rw [hcut]
 have hcs:(cutA d i).size=d.size - 1:=zj0 hl hi
 refine TL.ownW 8 Z (fun a6 g6 c6 hv6 _ _=>?_)
 cases hv6
 refine xN0 Z (xf 5 zbU Z (TL.late (TL.st 0 #[_,_,_,_,_,_] _ Z Z Z Z Z Z zel Z Z Zt (dA (xmp Z (xmi Z (xmi Z (TL.call [0,1] [0,1,11] (zjt hl) ⟨Z,Z,Z,Zt⟩ ⟨Z,Z,Zt⟩ ztg Z Z Z Z ?_))))))))
 rintro r9 Bs rfl
 refine ⟨Z,Zt,?_⟩
 rw [show zbl l (zau (zaP l σ (min o.u o.v)) (zaP l σ (max o.u o.v))) [] 1 (zau (zaP l σ (min o.u o.v)) (zaP l σ (max o.u o.v))).size σ=t from ht.symm]
 rw [show zau (zaP l σ (min o.u o.v)) (zaP l σ (max o.u o.v))=D1 from hD.symm]
 refine TL.rowS 11 Z (fun a7 b7 o7 c7 hv7 hc7 ha7=>⟨Zt,?_⟩)
 cases hv7
 refine xas Z (dS (TC.draw (od [1,3,5,7,9,11,13,15,17,19,21,25,22,26,29,31]) [0,7] fc_m (by kernel_rfl) (xmp Z (xN0 Z (xf 3 zbK Z (xlp 0 zdl Z Z (xmp Z (xN0 Z ?_))))))))
 refine xf 0 zaL Z (xL3 0 zac Z Z (xL2 7 za7 Z Z (xms Z (xmi Z (xms Z (TL.openE 1 Z (fun n0=>⟨(kL2 Z Z Zt),?_⟩)))))))
 refine TL.call [1,11] [1,11,12,13] (zqj (p:=⟨1,tg⟩) hl ha7 hDs Z zdp htz.1 htz.2 hg hP hne) ⟨Z,Z,Z,Z,Z,Zt⟩ ⟨Z,Z,Zt⟩ zzu Z Z Z Z ?_
 rintro r9 Bs ⟨xa,xc,ya,yc,rfl,rfl⟩
 refine ⟨Z,(kL2 Z Z Zt),?_⟩
 refine TL.conseq 1 (B:=zap ab mb 139 29 (t)) Z (fun h hh=>zdF hh) (kL2 Z Z Zt) (TL.stW 4 4 [_,_,_,_] Z Z Z Z Z Z zat Z Z (kL2 Z Z Zt) (xas Z (xat Z (dR (TQ.blockRet (TQ.thenRet (TQ.conseq 11 (B:=rowS _ D1) Z (fun _ h=>⟨_,_,_,_,Z,hc7,ha7,h⟩) ?_)))))))
 refine FQ.retG (rs:=[.cell 4 50,.tmp 5,.tmp 6]) [(.agg _),(.slice _ _ _),(.bool true)] (Bs:=[_,_,_,_,_,_]) [0,1,8,12,13,11] Z ⟨⟨_,_,_,_,_,4,Z,Z,.inr ⟨4,[_,_,_,_],zat,Z,Z⟩⟩,Z,Z,Zt⟩ Z Z ⟨Z,Z,Z,Z,Z,Z,Zt⟩ ?_
 exact ⟨_,_,_,_,_,_,Z,Z⟩
theorem zsg {l:Lay} (hl:l.Ok) {pb ab mb:Nat} {tg:Int} {av:Value} {σ:Array UInt64} {d:Array EdR} {o:Op3} {pr:Int->Int} {k:Nat} {g:G} (h:P19 l pr k σ tg g d) (hk:k<=60000):Go.Eng.Fn Tryz.prog 54 [.pointer (some ⟨pb,0,none⟩),.agg #[.int .i64 o.kind,.int .i64 o.u,.int .i64 o.v]] [pt pb (.cells #[.int .i64 l.V,.int .i64 l.S,.int .i64 l.T,.pointer (some ⟨ab,0,none⟩),.int .i64 (tg),av] 57),zap ab mb 139 29 (σ),ownA encE 5 80 av d] (fun x Bs=>∃ (P:PlanS) (xa:Option Addr) (xc:Nat) (ya:Option Addr) (yc:Nat) (va v2:Value) (ok:Bool) (m2:Array UInt64) (d2:Array EdR) (D1:Array Int),x=.tuple #[.agg #[.slice xa (P).work.size xc,.int .i64 (P).point,.bool (P).tree,.slice ya (P).roots.size yc],va,.bool ok]/\Bs=[pt pb (.cells #[.int .i64 l.V,.int .i64 l.S,.int .i64 l.T,.pointer (some ⟨ab,0,none⟩),.int .i64 (tg),v2] 57),zap ab mb 139 29 (m2),ownA encE 5 80 v2 d2,ownA zax 3 34 (.slice xa (P).work.size xc) (P.work),rowS (.slice ya (P).roots.size yc) P.roots,rowS va D1]/\(ok=false/\m2=σ/\d2=d\/ok=true/\∃ (u v s:Int) (g2:G),m2=zaN l σ u v/\D1=zcG l σ u v/\Cl19 l pr k σ tg g d P u v s g2 d2/\min u v=min o.u o.v/\max u v=max o.u o.v)):=by
 have hb:=zei hl
 have hT:1<=l.T:=by omega
 have hr:=h.r14 hl
 have hd:d.size<=100:=by have:=hr.size hl; omega
 have hsl:∀ j,j<d.size->0<=d[j]!.slot/\d[j]!.slot<l.S:=fun j hj=>(hr.rng hl hj).1
 have hcb:=zdj hl
 have hz:∀ {u v:Int},0<=u/\u<l.V->0<=v/\v<l.V->0<(zaN l σ u v).size/\(zaN l σ u v).size<=20000:=fun {u v} hu hv=>by
  obtain ⟨_,_,hH⟩:=h.hold hl hT hk hu hv
  have e:((zaN l σ u v).size:Int)=l.cells:=hH.calm.rt.size
  have:=(zaJ hl (x:=l.vertex 0 u) (f:=0) (vx0 hl hu).1 (by decide))
  omega
 by_cases hx:o.u=o.v\/o.u<0\/l.V<=o.u\/o.v<0\/l.V<=o.v
 ·exact (zvn hl hd hsl hx).mono fun _ _ ⟨h1,h2⟩=>⟨⟨#[],0,false,#[]⟩,none,0,none,0,_,_,false,σ,d,#[],h1,h2,.inl ⟨Z,Z,Z⟩⟩
 have hu:0<=o.u/\o.u<l.V:=by omega
 have hv:0<=o.v/\o.v<l.V:=by omega
 have hat:=zqb (d:=d) (a:=min o.u o.v) (b:=max o.u o.v) d.size
 by_cases hd2:o.kind=2/\0<=atN d (min o.u o.v) (max o.u o.v) d.size
 ·rcases hat with ⟨ha,_⟩ | ⟨i,hi,ha,h1,h2⟩
  ·rw [ha] at hd2; exact absurd hd2.2 (by decide)
  obtain ⟨⟨b,q,ok⟩,τ,P,g2,e1,e2,e3,hc⟩:=h.call_del hl hT hk hi h1.symm h2.symm
  exact (zvp hl hd hsl hx Z Z (hz hc.hu hc.hv) hd2.1 hi ha e1 e2 e3).mono fun x Bs ⟨xa,xc,ya,yc,va,v2,k1,k2⟩=>⟨P,xa,xc,ya,yc,va,v2,true,_,_,_,k1,k2,.inr ⟨Z,_,_,_,g2,Z,Z,hc,by omega,by omega⟩⟩
 by_cases hi2:o.kind=1/\atN d (min o.u o.v) (max o.u o.v) d.size<0/\∃ s:Nat,s<l.S/\∀ j,j<d.size->d[j]!.slot≠(s:Int)
 ·obtain ⟨hk1,ha0,s0,hs0⟩:=hi2
  rcases hat with ⟨ha,hfr⟩ | ⟨i,hi,ha,_⟩
  ·obtain ⟨s,hs,_,hlt⟩:=least (P:=fun s:Nat=>s<l.S/\∀ j,j<d.size->d[j]!.slot≠(s:Int)) hs0
   obtain ⟨b,τ,P,g2,e1,e2,e3,hc⟩:=h.call_ins hl hT hk (s:=(s:Int)) hu hv (by omega) ⟨by omega,by omega⟩ hs.2 hfr
   have hlt2:∀ q:Nat,q<s->∃ j,j<d.size/\d[j]!.slot=(q:Int):=fun q hq=>by
    refine Classical.byContradiction fun hn=>hlt q hq ⟨by omega,fun j hj e=>hn ⟨j,hj,e⟩⟩
   exact (zvo hl hd hsl hx zvJ.symm zpO.symm (hz hu hv) hk1 ha0 (by omega) hs.2 hlt2 e1 e2 e3).mono fun x Bs ⟨xa,xc,ya,yc,va,v2,k1,k2⟩=>⟨P,xa,xc,ya,yc,va,v2,true,_,_,_,k1,k2,.inr ⟨Z,_,_,_,g2,Z,Z,hc,Z,Z⟩⟩
  ·rw [ha] at ha0; omega
 refine (zvm hl hd hsl hx hd2 fun hk1 ha s hs=>?_).mono fun _ _ ⟨h1,h2⟩=>⟨⟨#[],0,false,#[]⟩,none,0,none,0,_,_,false,σ,d,#[],h1,h2,.inl ⟨Z,Z,Z⟩⟩
 refine Classical.byContradiction fun hn=>hi2 ⟨hk1,ha,s,hs,fun j hj e=>hn ⟨j,hj,e⟩⟩
theorem zli {V S T:Int}  : FnD Tryz.prog 52 [.agg #[.int .i64 V,.int .i64 S,.int .i64 T]] [] (.agg #[.int .i64 V,.int .i64 S,.int .i64 T]) []:=by
 refine Fn.enter (Tryz.func52) Z Z (fun w0 R=>?_)
 refine sA (xB 0 Z (fun bk0=>(TL.alloc 1 (cs:=#[.int .i64 0,.int .i64 0,.int .i64 0]) zwS Z Z Z (fun _=>Zt) (fun bk1=>(dA (xf 0 zaH Z (xli 0 zaa Z Z (xf 1 zbD Z (xli 0 zaa Z Z (xf 2 ze3 Z ?_))))))))))
 refine xli 0 zaa Z Z (TL.bld [.int .i64 0,.int .i64 0,.int .i64 0] [(.int _ _),(.int _ _),(.int _ _)] [_,_,_] zwS zAD ⟨Z,Z,Z,Zt⟩ ⟨Z,Z⟩ Z Z (TL.stW 1 3 [_,_,_] Z Z Z Z Z Z zgg Z Z Zt (dR ?_)))
 refine FQ.retG (rs:=[.cell 2 70]) [(.agg _)] (Bs:=[]) [] Z ⟨⟨_,_,_,_,_,1,Z,Z,.inr ⟨3,[_,_,_],zgg,Z,Z⟩⟩,Zt⟩ Z Z Zt ?_
 exact ⟨Z,Z⟩
theorem zko {V S T:Int}  {da oa:Option Addr} {dn dc on oc:Nat}  : FnD Tryz.prog 24 [.agg #[.int .i64 V,.int .i64 S,.int .i64 T,.slice da dn dc,.slice oa on oc]] [] (.bool (decide (okL V S T/\V<=6/\S<=8/\dn<=60/\on<=24))) []:=by
 refine Fn.enter (Tryz.func24) Z Z (fun w0 R=>?_)
 refine sA (xB 0 Z (fun bk0=>(xaf Z (dA (xf 0 ze2 Z (xL3 0 zac Z Z (xD [] zli zth Z (xD [] znU zAJ Z (TL.casesP Z (fun q1=>?_) (fun q1=>?_))))))))))
 refine xmt Z (xf 0 ze2 Z (xf 0 zaH Z (xli 0 zaa Z Z (TL.leq Z Z Z Z (fun q2=>?_) (fun q2=>?_)))))
 refine xpT Z (xmt Z (xf 0 ze2 Z (xf 1 zbD Z (xli 0 zaa Z Z (TL.leq Z Z Z Z (fun q3=>?_) (fun q3=>?_))))))
 refine xpT Z (xmt Z (xf 3 zkJ Z (xls 0 zgv Z Z (xz zaM Z (TL.leq Z Z Z Z (fun q4=>?_) (fun q4=>?_))))))
 refine xpT Z (xmt Z (xf 4 zkI Z (xls 0 zwT Z Z (xz zgJ Z (TL.leqV Z Z Z Z (TL.pickT (.bool _) Z Z Z Z (xab Z (dR ?_))))))))
 refine FQ.ret1 (v:=(.bool _)) (Bs:=[]) [] Z Z Z Zt ?_
 exact ⟨congrArg Value.bool (by first | (simp [*]; done) | (simp [*]; omega) | (rw [eq_comm,decide_eq_false_iff_not]; intro hc; obtain ⟨c1,c2,c3,c4,c5⟩:=hc; first | omega | (simp_all; done)) | (rw [eq_comm,decide_eq_true_iff]; refine ⟨by simp_all,?_⟩; omega) | (rw [decide_eq_decide]; constructor<;>intro hc<;>first | omega | exact ⟨by simp_all,by omega⟩)),rfl⟩
 refine xpG Z (xmf Z (xo Z (xo Z (xo Z (xo Z (xpF Z (xaf Z (dR ?_))))))))
 refine FQ.ret1 (v:=(.bool false)) (Bs:=[]) [] Z Z Z Zt ?_
 exact ⟨congrArg Value.bool (by first | (simp [*]; done) | (simp [*]; omega) | (rw [eq_comm,decide_eq_false_iff_not]; intro hc; obtain ⟨c1,c2,c3,c4,c5⟩:=hc; first | omega | (simp_all; done)) | (rw [eq_comm,decide_eq_true_iff]; refine ⟨by simp_all,?_⟩; omega) | (rw [decide_eq_decide]; constructor<;>intro hc<;>first | omega | exact ⟨by simp_all,by omega⟩)),rfl⟩
 refine xpG Z (xmf Z (xo Z (xo Z (xo Z (xo Z (xpF Z (xmf Z (xo Z ?_))))))))
 refine xo Z (xo Z (xo Z (xpF Z (xaf Z (dR ?_)))))
 refine FQ.ret1 (v:=(.bool false)) (Bs:=[]) [] Z Z Z Zt ?_
 exact ⟨congrArg Value.bool (by first | (simp [*]; done) | (simp [*]; omega) | (rw [eq_comm,decide_eq_false_iff_not]; intro hc; obtain ⟨c1,c2,c3,c4,c5⟩:=hc; first | omega | (simp_all; done)) | (rw [eq_comm,decide_eq_true_iff]; refine ⟨by simp_all,?_⟩; omega) | (rw [decide_eq_decide]; constructor<;>intro hc<;>first | omega | exact ⟨by simp_all,by omega⟩)),rfl⟩
 refine xpG Z (xmf Z (xo Z (xo Z (xo Z (xo Z (xpF Z (xmf Z (xo Z ?_))))))))
 refine xo Z (xo Z (xo Z (xpF Z (xmf Z (xo Z (xo Z (xo Z (xo Z ?_))))))))
 refine xpF Z (xaf Z (dR ?_))
 refine FQ.ret1 (v:=(.bool false)) (Bs:=[]) [] Z Z Z Zt ?_
 exact ⟨congrArg Value.bool (by first | (simp [*]; done) | (simp [*]; omega) | (rw [eq_comm,decide_eq_false_iff_not]; intro hc; obtain ⟨c1,c2,c3,c4,c5⟩:=hc; first | omega | (simp_all; done)) | (rw [eq_comm,decide_eq_true_iff]; refine ⟨by simp_all,?_⟩; omega) | (rw [decide_eq_decide]; constructor<;>intro hc<;>first | omega | exact ⟨by simp_all,by omega⟩)),rfl⟩
 refine xmf Z (xo Z (xo Z (xo Z (xo Z (xpF Z (xmf Z (xo Z (xo Z ?_))))))))
 refine xo Z (xo Z (xpF Z (xmf Z (xo Z (xo Z (xo Z (xo Z (xpF Z ?_))))))))
 refine xmf Z (xo Z (xo Z (xo Z (xo Z (xpF Z (xaf Z (dR ?_)))))))
 refine FQ.ret1 (v:=(.bool false)) (Bs:=[]) [] Z Z Z Zt ?_
 exact ⟨congrArg Value.bool (by first | (simp [*]; done) | (simp [*]; omega) | (rw [eq_comm,decide_eq_false_iff_not]; intro hc; obtain ⟨c1,c2,c3,c4,c5⟩:=hc; first | omega | (simp_all; done)) | (rw [eq_comm,decide_eq_true_iff]; refine ⟨by simp_all,?_⟩; omega) | (rw [decide_eq_decide]; constructor<;>intro hc<;>first | omega | exact ⟨by simp_all,by omega⟩)),rfl⟩
theorem zhn {a:Option Addr} {b off n c:Nat} {A:Assn} {f:Nat->Int} (ha:0<n->a=some ⟨b,off,none⟩) (hA:za8 A Tm.encI 1 b off n f) (hn:n<=1000) {x:Int}:FnD Tryz.prog 132 [.slice a n c,.int .i64 x] [A] (.bool (hasN f x n)) [A]:=by
 refine Fn.enter (Tryz.func132) Z Z (fun w0 R=>?_)
 refine sA (xaf Z (dB (xai Z (dK (TC.loopK (X:=Nat) [0,1] [0] (fun i=>[(5,.int .i64 ((i:Nat):Int))]) (fun i=>[]) (fun i=>i<=n/\∀ j,j<i->f j≠x) (fun i=>n - i) (0) ⟨Nat.zero_le _,fun j hj=>absurd hj (Nat.not_lt_zero _)⟩ ⟨Z,Zt⟩ Zt (fun i hI=>?_))))))
 obtain ⟨hi,hno⟩:=hI
 refine TC.sub (env':=[(5,_),(0,_),(1,_)]) (L':=[(0,_)]) ⟨Z,Z,Z,Zt⟩ ⟨Z,Zt⟩ (sB (xmi Z (xms Z (xz zah Z (TL.lss Z Z Z Z (fun q1=>?_) (fun q1=>?_))))))
 refine TL.done (TQ.then (TC.condT Z (TC.skip (TQ.then (TC.seq (TC.block (sA (xms Z ?_))))))))
 refine xmi Z (TL.iaO Z ha Z zah (by omega) Z Z (TL.ldRS 0 (.int _ _) Z Z hA (by omega) (Z) zaa Z Z (xmi Z (TL.eql Z Z Z Z (fun q2=>?_) (fun q2=>?_)))))
 refine dT Z (xat Z (dR (TQ.blockRet (TQ.thenRet (TQ.thenRet (TQ.blockRet (TQ.thenRet ?_)))))))
 refine FQ.ret1 (v:=(.bool true)) (Bs:=[A]) [0] Z Z Z ⟨Z,Zt⟩ ?_
 first | exact ⟨zwP (i:=i) (by omega) (by assumption),Z⟩ | exact ⟨zwQ (by omega) hi hno,Z⟩
 refine TL.done (TQ.then (TC.condF Z (TC.skip (TQ.inBlock (TQ.then (TC.region (xmi Z (TL.add (((i+1:Nat):Int)) Z Z (wrN (by omega)) Z Z ?_))))))))
 refine xai Z (TL.done (TQ.roundK (i+1) ⟨⟨by omega,fun j hj=>by by_cases he:j=i; subst he; assumption; exact hno j (by omega)⟩,by omega⟩ ⟨Z,Zt⟩ Zt (kE2 Z Z Zt) (kL1 Z Zt)))
 refine dE Z (sA (xaf Z (dR ?_)))
 refine FQ.ret1 (v:=(.bool false)) (Bs:=[A]) [0] Z Z Z ⟨Z,Zt⟩ ?_
 first | exact ⟨zwP (i:=i) (by omega) (by assumption),Z⟩ | exact ⟨zwQ (by omega) hi hno,Z⟩
set_option maxHeartbeats 4000000 in
theorem zvL {a:Option Addr} {b off n c:Nat} {A:Assn} {f:Nat->Int×Int} (ha:0<n->a=some ⟨b,off,none⟩) (hA:za8 A encP 2 b off n f) (hn:n<=400) {u v:Int}:FnD Tryz.prog 101 [.slice a n c,.int .i64 u,.int .i64 v] [A] (.bool (zlE f n u v)) [A]:=by
 refine Fn.enter (Tryz.func101) Z Z (fun w0 R=>?_)
 refine sA (xaf Z (dA (xmi Z (TL.bsN 1 [_] ([.int .i64 u]) zah zeV ⟨Z,Zt⟩ Z (lit1 Z) Z Z (fun bk1=>⟨Zt,?_⟩)))))
 refine xas Z (dS (TC.seq (TC.conseq 1 (B:=ownA Tm.encI 1 3 (.slice (some ⟨bk1,0,none⟩) 1 1) #[u]) Z (zsl (enc:=Tm.encI) (x:=u) Z) (TC.region (xai Z (dK (TC.loopK (X:=Nat×Value×Array Int) [0,2,6] [0] (fun ⟨i,w,s⟩=>[(8,.int .i64 ((i:Nat):Int)),(7,w)]) (fun ⟨i,w,s⟩=>[(1,ownA Tm.encI 1 3 w s)]) (fun ⟨i,w,s⟩=>JI f n u i s) (fun ⟨i,w,s⟩=>2 * n+1 - i) ((0,_,#[u])) JI.start ⟨Z,Z,Zt⟩ ⟨Z,Zt⟩ (fun y hI=>?_))))))))
 obtain ⟨i,w,s⟩:=y
 have hJ:JI f n u i s:=hI
 refine TC.sub (env':=[(8,_),(7,_),(0,_),(2,_),(6,_)]) (L':=[(1,_),(0,_)]) ⟨Z,Z,Z,Z,Z,Zt⟩ ⟨Z,Z,Zt⟩ (TC.seq (TC.seq (TC.ownW 1 Z (fun a9 g9 c9 hv9 hc9 ha9=>?_))))
 cases hv9
 refine TC.region (xmi Z (xmv Z (xz zah Z (TL.lss Z Z Z Z (fun q1=>?_) (fun q1=>?_)))))
 refine TL.done (TQ.then (TC.condT Z (TC.skip (TQ.then (TC.seq (TC.block (sA (xai Z ?_))))))))
 refine dK ?_
 obtain ⟨x0,hx0⟩:∃ x0,s[i]! =x0:=⟨_,rfl⟩
 refine TC.loopK (X:=Nat×Value×Array Int) [0,2,6,8] [0] (fun ⟨k,w,s⟩=>[(9,.int .i64 ((k:Nat):Int)),(7,w)]) (fun ⟨k,w,s⟩=>[(1,ownA Tm.encI 1 3 w s)]) (fun ⟨k,w,s⟩=>k<=n/\JK f n u i x0 k s) (fun ⟨k,w,s⟩=>n - k) ((0,_,s)) ⟨Nat.zero_le _,hx0▸JK.begin hJ (by omega)⟩ ⟨Z,Z,Zt⟩ ⟨Z,Zt⟩ (fun y hI=>?_)
 obtain ⟨k,w,s⟩:=y
 obtain ⟨hkn,hK⟩:=hI
 replace hkn:k<=n:=hkn
 replace hK:JK f n u i x0 k s:=hK
 refine TC.sub (env':=[(9,_),(7,_),(0,_),(2,_),(6,_),(8,_)]) (L':=[(1,_),(0,_)]) ⟨Z,Z,Z,Z,Z,Z,Zt⟩ ⟨Z,Z,Zt⟩ (sB (xmi Z (xms Z (xz zd4 Z (TL.lss Z Z Z Z (fun q2=>?_) (fun q2=>?_))))))
 refine TL.done (TQ.then (TC.condT Z (TC.skip (TQ.then (TC.seq (TC.block (TC.seq (TC.draw (od [1,3,5,7,9,11,13,15,17,19,21,23]) [0] fc_m (by kernel_rfl) ?_))))))))
 refine xms Z (xmi Z (TL.iaO Z ha Z zd4 (by omega) Z Z (TL.iaA (_+0) Z Z zcb (by decide) (by decide) Z Z Z (TL.ldRF 0 (.int _ _) Z Z hA (by omega) (zt2 _).1 Z zaa Z Z (xms Z (xmi Z (TL.iaO Z ha Z zd4 (by omega) Z Z (TL.iaA (_+1) Z Z zcb (by decide) (by decide) Z Z Z ?_))))))))
 refine TL.ldRF 0 (.int _ _) Z Z hA (by omega) (zt2 _).1 Z zaa Z Z (xai Z (xai Z (dB (xmi Z (TL.lss Z Z Z Z (fun q3=>?_) (fun q3=>?_))))))
 refine TL.done (TQ.then (TC.condT Z (TC.exit (TQ.thenExit (TQ.blockHere (TQ.then (TC.region (xmi Z ?_))))))))
 refine TL.add (((k+1:Nat):Int)) rfl rfl (wrN (by omega)) rfl rfl (xai rfl (TL.done (TQ.roundK ((k+1,_,_)) ⟨⟨(show k+1<=n by omega),(by first | exact hK.skip (by assumption) | exact hK.next (fun e=>by first | exact hm1 e | exact zbi.2 (.inl (hm1 e))) (fun e=>by first | exact zbO.1 (by assumption) | exact zbi.2 (.inr rfl) | exact absurd e (by rw [<-hK.hx]; assumption)))⟩,(show n - (k+1)<n - k by omega)⟩ ⟨rfl,rfl,trivial⟩ ⟨rfl,trivial⟩ (kE4 rfl rfl rfl rfl trivial) (kL1 rfl trivial))))
 refine TL.done (TQ.then (TC.condF Z (TC.skip (TQ.then (TC.seq (TC.seq (TC.ownW 1 Z (fun a9 g9 c9 hv9 hc9 ha9=>?_))))))))
 cases hv9
 refine TC.region (xmi Z (xmv Z (xmi Z (TL.iaO Z ha9 Z zah (by first | exact hK.lt | omega) Z Z (TL.ldRS 1 (.int _ _) Z Z (zas ha9) (by first | exact hK.lt | omega) (Z) zaa Z Z (TL.eql Z Z Z Z (fun q4=>?_) (fun q4=>?_)))))))
 refine xmt rfl (xmv rfl (xmi rfl (xD [1] (zhn ha9 (zas ha9) (by first | (have:=hK.ji.size; omega) | (have:=hJ.size; omega))) zjW rfl (TL.cases rfl (fun q5=>?_) (fun q5=>?_)))))
 refine xnt Z (xpG Z (TL.done (TQ.then (TC.condF Z (TC.skip (TQ.then (TC.seq ?_)))))))
 first | have hm1:=hK.mA (zbO.1 (by assumption)) | have hm1:=hK.mB | have hm1:=hK.mC (by assumption)
 refine TC.ownW 1 Z (fun a9 g9 c9 hv9 hc9 ha9=>?_)
 cases hv9
 refine TC.region (xmi Z (xmv Z (xmi Z (TL.iaO Z ha9 Z zah (by first | exact hK.lt | omega) Z Z (TL.ldRS 1 (.int _ _) Z Z (zas ha9) (by first | exact hK.lt | omega) (Z) zaa Z Z (TL.eql Z Z Z Z (fun q6=>?_) (fun q6=>?_)))))))
 refine xmt rfl (xmv rfl (xmi rfl (xD [1] (zhn ha9 (zas ha9) (by first | (have:=hK.ji.size; omega) | (have:=hJ.size; omega))) zjW rfl (TL.cases rfl (fun q7=>?_) (fun q7=>?_)))))
 refine xnt Z (xpG Z (TL.done (TQ.then (TC.condF Z (TC.skip (TQ.inBlock (TQ.then (TC.region ?_))))))))
 refine xmi rfl (TL.add (((k+1:Nat):Int)) rfl rfl (wrN (by omega)) rfl rfl (xai rfl (TL.done (TQ.roundK ((k+1,_,_)) ⟨⟨(show k+1<=n by omega),(by first | exact hK.skip (by assumption) | exact hK.next (fun e=>by first | exact hm1 e | exact zbi.2 (.inl (hm1 e))) (fun e=>by first | exact zbO.1 (by assumption) | exact zbi.2 (.inr rfl) | exact absurd e (by rw [<-hK.hx]; assumption)))⟩,(show n - (k+1)<n - k by omega)⟩ ⟨rfl,rfl,trivial⟩ ⟨rfl,trivial⟩ (kE4 rfl rfl rfl rfl trivial) (kL1 rfl trivial)))))
 refine xnf Z (xpT Z (TL.done (TQ.then (TC.condT Z (TC.region (xmv Z (xmi Z (TL.bsN 2 [_] (Tm.encI (f k).1) zah zeV ⟨Z,Zt⟩ Z (lit1 Z) Z Z (fun bk2=>⟨Zt,?_⟩)))))))))
 refine TL.appS 1 2 (d2:=#[(f k).1]) Z (Z) Z (fun _=>Z) Z Z (row1 Z) zeG (by decide) zc3 (by have:=hK.ji.size; simp at this ⊢; omega) Z Z (fun v3=>⟨Zt,?_⟩)
 replace hK:=hK.push (by omega) (by omega) (.inr ⟨by rw [<-hK.hx]; assumption,Z⟩) (fun hm=>absurd (zbO.2 hm) (by rw [Bool.not_eq_true]; assumption))
 refine xav rfl (dI (xmi rfl (TL.add (((k+1:Nat):Int)) rfl rfl (wrN (by omega)) rfl rfl (xai rfl (TL.done (TQ.roundK ((k+1,_,_)) ⟨⟨(show k+1<=n by omega),(by first | exact hK.skip (by assumption) | exact hK.next (fun e=>by first | exact hm1 e | exact zbi.2 (.inl (hm1 e))) (fun e=>by first | exact zbO.1 (by assumption) | exact zbi.2 (.inr rfl) | exact absurd e (by rw [<-hK.hx]; assumption)))⟩,(show n - (k+1)<n - k by omega)⟩ ⟨rfl,rfl,trivial⟩ ⟨rfl,trivial⟩ (kE4 rfl rfl rfl rfl trivial) (kL1 rfl trivial)))))))
 refine xmf Z (xo Z (xo Z (xo Z (xo Z (xpF Z (TL.done (TQ.then (TC.condF Z ?_))))))))
 refine TC.skip (TQ.inBlock (TQ.then (TC.region (xmi rfl (TL.add (((k+1:Nat):Int)) rfl rfl (wrN (by omega)) rfl rfl (xai rfl (TL.done (TQ.roundK ((k+1,_,_)) ⟨⟨(show k+1<=n by omega),(by first | exact hK.skip (by assumption) | exact hK.next (fun e=>by first | exact hm1 e | exact zbi.2 (.inl (hm1 e))) (fun e=>by first | exact zbO.1 (by assumption) | exact zbi.2 (.inr rfl) | exact absurd e (by rw [<-hK.hx]; assumption)))⟩,(show n - (k+1)<n - k by omega)⟩ ⟨rfl,rfl,trivial⟩ ⟨rfl,trivial⟩ (kE4 rfl rfl rfl rfl trivial) (kL1 rfl trivial)))))))))
 refine xnf Z (xpT Z (TL.done (TQ.then (TC.condT Z (TC.region (xmv Z (xmi Z (TL.bsN 4 [_] (Tm.encI (f k).2) zah zeV ⟨Z,Zt⟩ Z (lit1 Z) Z Z (fun bk4=>⟨Zt,?_⟩)))))))))
 refine TL.appS 1 4 (d2:=#[(f k).2]) Z (Z) Z (fun _=>Z) Z Z (row1 Z) zeG (by decide) zc3 (by have:=hK.ji.size; simp at this ⊢; omega) Z Z (fun v5=>⟨Zt,?_⟩)
 replace hK:=hK.push (by omega) (by omega) (.inl ⟨by rw [<-hK.hx]; assumption,Z⟩) (fun hm=>absurd (zbO.2 hm) (by rw [Bool.not_eq_true]; assumption))
 refine xav Z (dS ?_)
 first | have hm1:=hK.mA (zbO.1 (by assumption)) | have hm1:=hK.mB | have hm1:=hK.mC (by assumption)
 refine TC.ownW 1 Z (fun a9 g9 c9 hv9 hc9 ha9=>?_)
 cases hv9
 refine TC.region (xmi Z (xmv Z (xmi Z (TL.iaO Z ha9 Z zah (by first | exact hK.lt | omega) Z Z (TL.ldRS 1 (.int _ _) Z Z (zas ha9) (by first | exact hK.lt | omega) (Z) zaa Z Z (TL.eql Z Z Z Z (fun q6=>?_) (fun q6=>?_)))))))
 refine xmt rfl (xmv rfl (xmi rfl (xD [1] (zhn ha9 (zas ha9) (by first | (have:=hK.ji.size; omega) | (have:=hJ.size; omega))) zjW rfl (TL.cases rfl (fun q7=>?_) (fun q7=>?_)))))
 refine xnt Z (xpG Z (TL.done (TQ.then (TC.condF Z (TC.skip (TQ.inBlock (TQ.then (TC.region ?_))))))))
 refine xmi rfl (TL.add (((k+1:Nat):Int)) rfl rfl (wrN (by omega)) rfl rfl (xai rfl (TL.done (TQ.roundK ((k+1,_,_)) ⟨⟨(show k+1<=n by omega),(by first | exact hK.skip (by assumption) | exact hK.next (fun e=>by first | exact hm1 e | exact zbi.2 (.inl (hm1 e))) (fun e=>by first | exact zbO.1 (by assumption) | exact zbi.2 (.inr rfl) | exact absurd e (by rw [<-hK.hx]; assumption)))⟩,(show n - (k+1)<n - k by omega)⟩ ⟨rfl,rfl,trivial⟩ ⟨rfl,trivial⟩ (kE4 rfl rfl rfl rfl trivial) (kL1 rfl trivial)))))
 refine xnf Z (xpT Z (TL.done (TQ.then (TC.condT Z (TC.region (xmv Z (xmi Z (TL.bsN 6 [_] (Tm.encI (f k).1) zah zeV ⟨Z,Zt⟩ Z (lit1 Z) Z Z (fun bk6=>⟨Zt,?_⟩)))))))))
 refine TL.appS 1 6 (d2:=#[(f k).1]) Z (Z) Z (fun _=>Z) Z Z (row1 Z) zeG (by decide) zc3 (by have:=hK.ji.size; simp at this ⊢; omega) Z Z (fun v7=>⟨Zt,?_⟩)
 replace hK:=hK.push (by omega) (by omega) (.inr ⟨by rw [<-hK.hx]; assumption,Z⟩) (fun hm=>absurd (zbO.2 hm) (by rw [Bool.not_eq_true]; assumption))
 refine xav rfl (dI (xmi rfl (TL.add (((k+1:Nat):Int)) rfl rfl (wrN (by omega)) rfl rfl (xai rfl (TL.done (TQ.roundK ((k+1,_,_)) ⟨⟨(show k+1<=n by omega),(by first | exact hK.skip (by assumption) | exact hK.next (fun e=>by first | exact hm1 e | exact zbi.2 (.inl (hm1 e))) (fun e=>by first | exact zbO.1 (by assumption) | exact zbi.2 (.inr rfl) | exact absurd e (by rw [<-hK.hx]; assumption)))⟩,(show n - (k+1)<n - k by omega)⟩ ⟨rfl,rfl,trivial⟩ ⟨rfl,trivial⟩ (kE4 rfl rfl rfl rfl trivial) (kL1 rfl trivial)))))))
 refine xmf Z (xo Z (xo Z (xo Z (xo Z (xpF Z (TL.done (TQ.then (TC.condF Z ?_))))))))
 refine TC.skip (TQ.inBlock (TQ.then (TC.region (xmi rfl (TL.add (((k+1:Nat):Int)) rfl rfl (wrN (by omega)) rfl rfl (xai rfl (TL.done (TQ.roundK ((k+1,_,_)) ⟨⟨(show k+1<=n by omega),(by first | exact hK.skip (by assumption) | exact hK.next (fun e=>by first | exact hm1 e | exact zbi.2 (.inl (hm1 e))) (fun e=>by first | exact zbO.1 (by assumption) | exact zbi.2 (.inr rfl) | exact absurd e (by rw [<-hK.hx]; assumption)))⟩,(show n - (k+1)<n - k by omega)⟩ ⟨rfl,rfl,trivial⟩ ⟨rfl,trivial⟩ (kE4 rfl rfl rfl rfl trivial) (kL1 rfl trivial)))))))))
 refine xmf Z (xo Z (xo Z (xo Z (xo Z (xpF Z (TL.done (TQ.then (TC.condF Z ?_))))))))
 refine TC.skip (TQ.then (TC.seq ?_))
 first | have hm1:=hK.mA (zbO.1 (by assumption)) | have hm1:=hK.mB | have hm1:=hK.mC (by assumption)
 refine TC.ownW 1 Z (fun a9 g9 c9 hv9 hc9 ha9=>?_)
 cases hv9
 refine TC.region (xmi Z (xmv Z (xmi Z (TL.iaO Z ha9 Z zah (by first | exact hK.lt | omega) Z Z (TL.ldRS 1 (.int _ _) Z Z (zas ha9) (by first | exact hK.lt | omega) (Z) zaa Z Z (TL.eql Z Z Z Z (fun q5=>?_) (fun q5=>?_)))))))
 refine xmt rfl (xmv rfl (xmi rfl (xD [1] (zhn ha9 (zas ha9) (by first | (have:=hK.ji.size; omega) | (have:=hJ.size; omega))) zjW rfl (TL.cases rfl (fun q6=>?_) (fun q6=>?_)))))
 refine xnt Z (xpG Z (TL.done (TQ.then (TC.condF Z (TC.skip (TQ.inBlock (TQ.then (TC.region ?_))))))))
 refine xmi rfl (TL.add (((k+1:Nat):Int)) rfl rfl (wrN (by omega)) rfl rfl (xai rfl (TL.done (TQ.roundK ((k+1,_,_)) ⟨⟨(show k+1<=n by omega),(by first | exact hK.skip (by assumption) | exact hK.next (fun e=>by first | exact hm1 e | exact zbi.2 (.inl (hm1 e))) (fun e=>by first | exact zbO.1 (by assumption) | exact zbi.2 (.inr rfl) | exact absurd e (by rw [<-hK.hx]; assumption)))⟩,(show n - (k+1)<n - k by omega)⟩ ⟨rfl,rfl,trivial⟩ ⟨rfl,trivial⟩ (kE4 rfl rfl rfl rfl trivial) (kL1 rfl trivial)))))
 refine xnf Z (xpT Z (TL.done (TQ.then (TC.condT Z (TC.region (xmv Z (xmi Z (TL.bsN 8 [_] (Tm.encI (f k).1) zah zeV ⟨Z,Zt⟩ Z (lit1 Z) Z Z (fun bk8=>⟨Zt,?_⟩)))))))))
 refine TL.appS 1 8 (d2:=#[(f k).1]) Z (Z) Z (fun _=>Z) Z Z (row1 Z) zeG (by decide) zc3 (by have:=hK.ji.size; simp at this ⊢; omega) Z Z (fun v9=>⟨Zt,?_⟩)
 replace hK:=hK.push (by omega) (by omega) (.inr ⟨by rw [<-hK.hx]; assumption,Z⟩) (fun hm=>absurd (zbO.2 hm) (by rw [Bool.not_eq_true]; assumption))
 refine xav rfl (dI (xmi rfl (TL.add (((k+1:Nat):Int)) rfl rfl (wrN (by omega)) rfl rfl (xai rfl (TL.done (TQ.roundK ((k+1,_,_)) ⟨⟨(show k+1<=n by omega),(by first | exact hK.skip (by assumption) | exact hK.next (fun e=>by first | exact hm1 e | exact zbi.2 (.inl (hm1 e))) (fun e=>by first | exact zbO.1 (by assumption) | exact zbi.2 (.inr rfl) | exact absurd e (by rw [<-hK.hx]; assumption)))⟩,(show n - (k+1)<n - k by omega)⟩ ⟨rfl,rfl,trivial⟩ ⟨rfl,trivial⟩ (kE4 rfl rfl rfl rfl trivial) (kL1 rfl trivial)))))))
 refine xmf Z (xo Z (xo Z (xo Z (xo Z (xpF Z (TL.done (TQ.then (TC.condF Z ?_))))))))
 refine TC.skip (TQ.inBlock (TQ.then (TC.region (xmi rfl (TL.add (((k+1:Nat):Int)) rfl rfl (wrN (by omega)) rfl rfl (xai rfl (TL.done (TQ.roundK ((k+1,_,_)) ⟨⟨(show k+1<=n by omega),(by first | exact hK.skip (by assumption) | exact hK.next (fun e=>by first | exact hm1 e | exact zbi.2 (.inl (hm1 e))) (fun e=>by first | exact zbO.1 (by assumption) | exact zbi.2 (.inr rfl) | exact absurd e (by rw [<-hK.hx]; assumption)))⟩,(show n - (k+1)<n - k by omega)⟩ ⟨rfl,rfl,trivial⟩ ⟨rfl,trivial⟩ (kE4 rfl rfl rfl rfl trivial) (kL1 rfl trivial)))))))))
 refine TL.done (TQ.then (TC.condF Z (TC.exit (TQ.thenExit (TQ.thenExit (TQ.blockHere (TQ.inBlock (TQ.then ?_))))))))
 refine TC.region (xmi rfl (TL.add (((i+1:Nat):Int)) rfl rfl (wrN (by have:=hJ.size; omega)) rfl rfl (xai rfl (TL.done (TQ.roundK ((i+1,_,_)) ⟨(by obtain rfl:k=n:=(by omega); exact JK.done hK),(by have:=hJ.size; have:=hJ.le; show 2 * n+1 - (i+1)<2 * n+1 - i; omega)⟩ ⟨rfl,rfl,trivial⟩ ⟨rfl,trivial⟩ (kE3 rfl rfl rfl trivial) (kL1 rfl trivial))))))
 refine dE Z (TC.seq (TC.ownW 1 Z (fun a9 g9 c9 hv9 hc9 ha9=>?_)))
 cases hv9
 refine TC.region (xmv Z (xmi Z (xD [1] (zhn ha9 (zas ha9) (by first | (have:=hK.ji.size; omega) | (have:=hJ.size; omega))) zjW Z (xab Z (dR ?_)))))
 refine FQ.ret1 (v:=(.bool _)) (Bs:=[A]) [0] Z Z Z ⟨Z,Zt⟩ ?_
 exact ⟨congrArg Value.bool (JI.closed hJ (by omega)),Z⟩
theorem zfO {l:Lay} (hl:l.Ok):FnD Tryz.prog 94 [layV l] [] (.int .i64 l.lev) []:=by
 refine Fn.enter (Tryz.func94) Z Z (fun w0 R=>?_)
 refine sA (xB 0 Z (fun bk0=>(xai Z (dA (xai Z (dB (xai Z (dK (TC.loopK (X:=Nat) [1,2] [0] (fun x=>[(3,.int .i64 ((x:Nat):Int)),(4,.int .i64 (pw x))]) (fun x=>[]) (fun x=>x<=5/\1<=pw x/\pw x<=32/\(x=0\/pw x<=2 * (l.V:Int))) (fun x=>6 - x) (0) ⟨by omega,by decide,by decide,.inl Z⟩ ⟨Z,Z,Zt⟩ Zt (fun x hI=>?_))))))))))
 refine TC.sub (env':=[(3,_),(4,_),(1,_),(2,_)]) (L':=[(0,_)]) ⟨Z,Z,Z,Z,Zt⟩ ⟨Z,Zt⟩ (sB (xmi Z (xf 0 zdv Z (xli 0 zaa Z Z (TL.leq Z Z Z Z (fun q1=>?_) (fun q1=>?_))))))
 refine TL.done (TQ.then (TC.condT Z (TC.skip (TQ.then (TC.seq (TC.block (TC.region (xmi Z ?_))))))))
 refine TL.add _ Z Z (wr64 (by omega)) Z Z (xai Z (dI (xmi Z (TL.mul _ Z Z (wr64 (by omega)) Z Z (xai Z (TL.done (TQ.roundK (x+1) ⟨zvB hI.1 (by have:=hl.2.1; omega) (by assumption),by omega⟩ ⟨Z,Z,Zt⟩ Zt (kE2 Z Z Zt) (kL1 Z Zt))))))))
 refine dE Z (sA (xmi Z (xai Z (dR ?_))))
 refine FQ.ret1 (v:=(.int _ _)) (Bs:=[]) [] Z Z Z Zt ?_
 exact ⟨iE (zyf hI.1 (by assumption) hI.2.2.2),Z⟩
theorem zmD {l:Lay} (hl:l.Ok):Go.Eng.Fn Tryz.prog 53 [layV l] [] (fun x Bs=>∃ d:Array Nm,Bs=[ownA encN 4 98 x d]/\NN l d/\(d.size:Int)=l.nodes):=by
 have lb:=zcg hl
 have hb:=zei hl
 refine Fn.enter (Tryz.func53) Z Z (fun w0 R=>?_)
 refine sA (xB 0 Z (fun bk0=>(TL.asg (.slice none 0 0) Z Z Z (dA (TL.asg (.slice none 0 0) Z Z Z (dS (TC.seq (TC.nilA 1 (A:=ownA encN 4 98 (.slice none 0 0) #[]) (.inl ⟨Z,Z⟩) (TC.region ?_)))))))))
 refine xai Z (dK (TC.loopK (X:=Nat×Value×Array Nm) [1,2] [0] (fun ⟨i,w,d⟩=>[(4,.int .i64 ((i:Nat):Int)),(3,w)]) (fun ⟨i,w,d⟩=>[(1,ownA encN 4 98 w d)]) (fun ⟨i,w,d⟩=>((i:Int)<=l.lev/\(d.size:Int)=i * l.V)/\NN l d) (fun ⟨i,w,d⟩=>l.lev.toNat - i) ((0,_,#[])) ⟨⟨by omega,by simp⟩,NN.nil⟩ ⟨Z,Z,Zt⟩ ⟨Z,Zt⟩ (fun y hI=>?_)))
 obtain ⟨i,w,d⟩:=y
 obtain ⟨⟨hi,hsz⟩,hN⟩:=hI
 replace hi:(i:Int)<=l.lev:=hi
 replace hsz:(d.size:Int)=i * l.V:=hsz
 replace hN:NN l d:=hN
 refine TC.sub (env':=[(4,_),(3,_),(1,_),(2,_)]) (L':=[(1,_),(0,_)]) ⟨Z,Z,Z,Z,Zt⟩ ⟨Z,Z,Zt⟩ (sB (xmi Z (xL3 0 zgg Z Z (xD [] (zfO hl) zte Z (TL.lss Z Z Z Z (fun q1=>?_) (fun q1=>?_))))))
 refine TL.done (TQ.then (TC.condT Z (TC.skip (TQ.then (TC.seq (TC.block (sA (xai Z ?_))))))))
 refine dK (TC.loopK (X:=Nat×Value×Array Nm) [1,2,4] [0] (fun ⟨v,w,d⟩=>[(5,.int .i64 ((v:Nat):Int)),(3,w)]) (fun ⟨v,w,d⟩=>[(1,ownA encN 4 98 w d)]) (fun ⟨v,w,d⟩=>(v<=l.V/\(d.size:Int)=i * l.V+v)/\NN l d) (fun ⟨v,w,d⟩=>l.V - v) ((0,_,d)) ⟨⟨by omega,by simp; omega⟩,hN⟩ ⟨Z,Z,Zt⟩ ⟨Z,Zt⟩ (fun y hI=>?_))
 obtain ⟨v,w,d⟩:=y
 obtain ⟨⟨hv,hsz⟩,hN⟩:=hI
 replace hv:v<=l.V:=hv
 replace hsz:(d.size:Int)=i * l.V+v:=hsz
 replace hN:NN l d:=hN
 refine TC.sub (env':=[(5,_),(3,_),(1,_),(2,_),(4,_)]) (L':=[(1,_),(0,_)]) ⟨Z,Z,Z,Z,Z,Zt⟩ ⟨Z,Z,Zt⟩ (sB (xmi Z (xf 0 zdv Z (xli 0 zaa Z Z (TL.lss Z Z Z Z (fun q2=>?_) (fun q2=>?_))))))
 refine TL.done (TQ.then (TC.condT Z (TC.skip (TQ.then (TC.seq (TC.block (TC.region (xmv Z ?_))))))))
 refine xmi Z (xmi Z (TL.bld [.int .i64 0,.int .i64 0,.int .i64 0,.int .i64 0] [(.int _ _),(.int _ _),(.int _ _),(.int _ _)] [_,_,_,_] zci zen ⟨Z,Z,Z,Z,Zt⟩ ⟨Z,Z⟩ Z Z (TL.bsN 2 [_] (encN ⟨1,i,v,0⟩) zbx zci ⟨Z,Zt⟩ Z (lit1 Z) Z Z (fun bk2=>⟨Zt,?_⟩))))
 replace hN:=hN
 refine TL.appS 1 2 (d2:=#[⟨1,i,v,0⟩]) Z (Z) Z (fun _=>Z) Z Z (row1 Z) zeF (by decide) zcy (by have:=NN.le hl hN; have:=zaD hl; simp; omega) Z Z (fun v3=>⟨Zt,?_⟩)
 refine xav Z (dI (xmi Z (TL.add (((v+1:Nat):Int)) Z Z (wrN (by omega)) Z Z (xai Z (TL.done (TQ.roundK ((v+1,_,_)) ⟨⟨⟨(show v+1<=l.V by omega),(show ((d++#[_]).size:Int)=_+((v+1:Nat):Int) by simp; omega)⟩,hN.vertex hl ⟨⟨by omega,by omega⟩,by omega,by omega⟩ (by omega)⟩,(show l.V - (v+1)<l.V - v by omega)⟩ ⟨Z,Z,Zt⟩ ⟨Z,Zt⟩ (kE3 Z Z Z Zt) (kL1 Z Zt)))))))
 refine TL.done (TQ.then (TC.condF Z (TC.exit (TQ.thenExit (TQ.thenExit (TQ.blockHere (TQ.inBlock (TQ.then ?_))))))))
 refine TC.region (xmi Z (TL.add (((i+1:Nat):Int)) Z Z (wrN (by omega)) Z Z (xai Z (TL.done (TQ.roundK ((i+1,_,_)) ⟨⟨⟨(show ((i+1:Nat):Int)<=l.lev by omega),(show _=((i+1:Nat):Int) * _ by rw [mulS]; omega)⟩,hN⟩,(show l.lev.toNat - (i+1)<l.lev.toNat - i by omega)⟩ ⟨Z,Z,Zt⟩ ⟨Z,Zt⟩ (kE2 Z Z Zt) (kL1 Z Zt))))))
 refine dE Z (sB (xai Z (dK (TC.loopK (X:=Nat×Value×Array Nm) [1,2] [0] (fun ⟨s,w,d⟩=>[(6,.int .i64 ((s:Nat):Int)),(3,w)]) (fun ⟨s,w,d⟩=>[(1,ownA encN 4 98 w d)]) (fun ⟨s,w,d⟩=>(s<=l.S/\(d.size:Int)=l.lev * l.V+s * l.arcs)/\NN l d) (fun ⟨s,w,d⟩=>l.S - s) ((0,_,d)) ⟨⟨by omega,by have:(i:Int)=l.lev:=(by omega); rw [hsz,this]; simp⟩,hN⟩ ⟨Z,Z,Zt⟩ ⟨Z,Zt⟩ (fun y hI=>?_)))))
 obtain ⟨s,w,d⟩:=y
 obtain ⟨⟨hs,hsz⟩,hN⟩:=hI
 replace hs:s<=l.S:=hs
 replace hsz:(d.size:Int)=l.lev * l.V+s * l.arcs:=hsz
 replace hN:NN l d:=hN
 refine TC.sub (env':=[(6,_),(3,_),(1,_),(2,_)]) (L':=[(1,_),(0,_)]) ⟨Z,Z,Z,Z,Zt⟩ ⟨Z,Z,Zt⟩ (sB (xmi Z (xf 1 zgf Z (xli 0 zaa Z Z (TL.lss Z Z Z Z (fun q2=>?_) (fun q2=>?_))))))
 refine TL.done (TQ.then (TC.condT Z (TC.skip (TQ.then (TC.seq (TC.block (sA (xai Z ?_))))))))
 refine dK (TC.loopK (X:=Nat×Value×Array Nm) [1,2,6] [0] (fun ⟨i,w,d⟩=>[(7,.int .i64 ((i:Nat):Int)),(3,w)]) (fun ⟨i,w,d⟩=>[(1,ownA encN 4 98 w d)]) (fun ⟨i,w,d⟩=>((i:Int)<=l.lev/\(d.size:Int)=l.lev * l.V+s * l.arcs+2 * i)/\NN l d) (fun ⟨i,w,d⟩=>l.lev.toNat - i) ((0,_,d)) ⟨⟨by omega,by simp; omega⟩,hN⟩ ⟨Z,Z,Zt⟩ ⟨Z,Zt⟩ (fun y hI=>?_))
 obtain ⟨i,w,d⟩:=y
 obtain ⟨⟨hi,hsz⟩,hN⟩:=hI
 replace hi:(i:Int)<=l.lev:=hi
 replace hsz:(d.size:Int)=l.lev * l.V+s * l.arcs+2 * i:=hsz
 replace hN:NN l d:=hN
 refine TC.sub (env':=[(7,_),(3,_),(1,_),(2,_),(6,_)]) (L':=[(1,_),(0,_)]) ⟨Z,Z,Z,Z,Z,Zt⟩ ⟨Z,Z,Zt⟩ (sB (xmi Z (xL3 0 zgg Z Z (xD [] (zfO hl) zte Z (TL.lss Z Z Z Z (fun q3=>?_) (fun q3=>?_))))))
 refine TL.done (TQ.then (TC.condT Z (TC.skip (TQ.then (TC.seq (TC.block (TC.region (xmv Z ?_))))))))
 refine xmi Z (xmi Z (TL.bld [.int .i64 0,.int .i64 0,.int .i64 0,.int .i64 0] [(.int _ _),(.int _ _),(.int _ _),(.int _ _)] [_,_,_,_] zci zen ⟨Z,Z,Z,Z,Zt⟩ ⟨Z,Z⟩ Z Z (xmi Z (xmi Z (TL.bld [.int .i64 0,.int .i64 0,.int .i64 0,.int .i64 0] [(.int _ _),(.int _ _),(.int _ _),(.int _ _)] [_,_,_,_] zci zen ⟨Z,Z,Z,Z,Zt⟩ ⟨Z,Z⟩ Z Z (TL.bsN 4 [_,_] (([(⟨2,s,i,0⟩:Nm),⟨2,s,i,1⟩].map encN).flatten) zbx zci ⟨Z,Z,Zt⟩ Z (litN [(⟨2,s,i,0⟩:Nm),⟨2,s,i,1⟩] (fun x=>(zl7 x).1)) Z Z (fun bk4=>⟨Zt,?_⟩)))))))
 refine TL.appS 1 4 (d2:=#[⟨2,s,i,0⟩,⟨2,s,i,1⟩]) Z (Z) Z (fun _=>Z) Z Z (zz5 #[(⟨2,s,i,0⟩:Nm),⟨2,s,i,1⟩] (fun x=>(zl7 x).1)) zeF (by decide) zcy (by have:=NN.le hl hN; have:=zaD hl; simp; omega) Z Z (fun v5=>⟨Zt,?_⟩)
 refine xav Z (dI (xmi Z (TL.add (((i+1:Nat):Int)) Z Z (wrN (by omega)) Z Z (xai Z (TL.done (TQ.roundK ((i+1,_,_)) ⟨⟨⟨(show ((i+1:Nat):Int)<=l.lev by omega),(show ((d++#[_,_]).size:Int)=_+2 * ((i+1:Nat):Int) by simp; omega)⟩,hN.arcs hl (by omega) (by omega) (by omega)⟩,(show l.lev.toNat - (i+1)<l.lev.toNat - i by omega)⟩ ⟨Z,Z,Zt⟩ ⟨Z,Zt⟩ (kE3 Z Z Z Zt) (kL1 Z Zt)))))))
 refine TL.done (TQ.then (TC.condF Z (TC.exit (TQ.thenExit (TQ.thenExit (TQ.blockHere (TQ.inBlock (TQ.then ?_))))))))
 refine TC.region (xmi Z (TL.add (((s+1:Nat):Int)) Z Z (wrN (by omega)) Z Z (xai Z (TL.done (TQ.roundK ((s+1,_,_)) ⟨⟨⟨(show s+1<=l.S by omega),(show _=_+((s+1:Nat):Int) * _ by rw [mulS]; have:l.arcs=2 * l.lev:=rfl; omega)⟩,hN⟩,(show l.S - (s+1)<l.S - s by omega)⟩ ⟨Z,Z,Zt⟩ ⟨Z,Zt⟩ (kE2 Z Z Zt) (kL1 Z Zt))))))
 refine dE Z (sA (xmv Z (xav Z (dR ?_))))
 refine FQ.ret1 (v:=_) (Bs:=[_]) [1] Z Z Z ⟨Z,Zt⟩ ?_
 obtain rfl:s=l.S:=by omega
 exact ⟨d,Z,hN,by rw [hsz]; rfl⟩
set_option maxHeartbeats 1000000 in
theorem zrV {l:Lay} (hl:l.Ok):Go.Eng.Fn Tryz.prog 104 [layV l] [] (fun x Bs=>∃ d:Array Nm,Bs=[ownA encN 4 98 x d]/\NI l d/\(d.size:Int)=l.cells):=by
 have lb:=zcg hl
 have hb:=zei hl
 have hnb:=zaD hl
 have hh:l.heads=l.T+1+l.S * 7:=rfl
 have he:l.edges=l.heads+l.V * l.lev:=rfl
 have hbs:l.base=l.edges+(l.V:Int) * (l.V - 1) / 2:=rfl
 have hcl:l.cells=l.base+l.nodes * 7:=rfl
 have ht0:tri l.V 0=0:=by unfold tri; simp
 have htV:=zxq hl
 refine Fn.enter (Tryz.func104) Z Z (fun w0 R=>?_)
 refine sA (xB 0 Z (fun bk0=>(TL.asg (.slice none 0 0) Z Z Z (dA (TL.asg (.slice none 0 0) Z Z Z (dS (TC.seq (TC.nilA 1 (A:=ownA encN 4 98 (.slice none 0 0) #[]) (.inl ⟨Z,Z⟩) (TC.region ?_)))))))))
 refine xai Z (dK (TC.loopK (X:=Nat×Value×Array Nm) [1,2] [0] (fun ⟨i,w,d⟩=>[(4,.int .i64 ((i+1:Nat):Int)),(3,w)]) (fun ⟨i,w,d⟩=>[(1,ownA encN 4 98 w d)]) (fun ⟨i,w,d⟩=>((i<=l.T)/\(d.size:Int)=i)/\NI l d) (fun ⟨i,w,d⟩=>l.T - i) ((0,_,#[])) ⟨⟨by omega,by simp⟩,NI.nil⟩ ⟨Z,Z,Zt⟩ ⟨Z,Zt⟩ (fun y hI=>?_)))
 obtain ⟨i,w,d⟩:=y
 obtain ⟨⟨hi,hsz⟩,hN⟩:=hI
 replace hi:i<=l.T:=hi
 replace hsz:(d.size:Int)=i:=hsz
 replace hN:NI l d:=hN
 refine TC.sub (env':=[(4,_),(3,_),(1,_),(2,_)]) (L':=[(1,_),(0,_)]) ⟨Z,Z,Z,Z,Zt⟩ ⟨Z,Z,Zt⟩ (sB (xmi Z (xf 2 zhW Z (xli 0 zaa Z Z (TL.leq Z Z Z Z (fun q1=>?_) (fun q1=>?_))))))
 refine TL.done (TQ.then (TC.condT Z (TC.skip (TQ.then (TC.seq (TC.block (TC.region (xmv Z ?_))))))))
 refine xmi Z (TL.bld [.int .i64 0,.int .i64 0,.int .i64 0,.int .i64 0] [(.int _ _),(.int _ _),(.int _ _),(.int _ _)] [_,_,_,_] zci zen ⟨Z,Z,Z,Z,Zt⟩ ⟨Z,Z⟩ Z Z (TL.bsN 2 [_] (encN ⟨1,((i+1:Nat):Int),0,0⟩) zbx zci ⟨Z,Zt⟩ Z (lit1 Z) Z Z (fun bk2=>⟨Zt,?_⟩)))
 refine TL.appS 1 2 (d2:=#[⟨1,((i+1:Nat):Int),0,0⟩]) Z (Z) Z (fun _=>Z) Z Z (row1 Z) zeF (by decide) zcy (by have:=NI.le hl hN; have:=zdj hl; simp; omega) Z Z (fun v3=>⟨Zt,?_⟩)
 refine xav Z (dI (xmi Z (TL.add (((i+2:Nat):Int)) Z Z (wrN (by omega)) Z Z (xai Z (TL.done (TQ.roundK ((i+1,_,_)) ⟨⟨⟨(show i+1<=l.T by omega),(show ((d++#[_]).size:Int)=((i+1:Nat):Int) by simp; omega)⟩,hN.push (by rw [zmI hl (by omega)]; omega)⟩,(show l.T - (i+1)<l.T - i by omega)⟩ ⟨Z,Z,Zt⟩ ⟨Z,Zt⟩ (kE2 Z Z Zt) (kL1 Z Zt)))))))
 refine dE Z (TC.seq ?_)
 obtain rfl:i=l.T:=by omega
 refine TC.region (xmv Z (TL.bld [.int .i64 0,.int .i64 0,.int .i64 0,.int .i64 0] [(.int _ _),(.int _ _),(.int _ _),(.int _ _)] [_,_,_,_] zci zen ⟨Z,Z,Z,Z,Zt⟩ ⟨Z,Z⟩ Z Z (TL.bsN 4 [_] (encN ⟨2,0,0,0⟩) zbx zci ⟨Z,Zt⟩ Z (lit1 Z) Z Z (fun bk4=>⟨Zt,?_⟩))))
 refine TL.appS 1 4 (d2:=#[⟨2,0,0,0⟩]) Z (Z) Z (fun _=>Z) Z Z (row1 Z) zeF (by decide) zcy (by have:=NI.le hl hN; have:=zdj hl; simp; omega) Z Z (fun v5=>⟨Zt,?_⟩)
 refine xav Z (dS (TC.seq ?_))
 replace hN:=hN.push (n:=⟨2,0,0,0⟩) (by rw [zvi hl,hsz])
 refine TC.region (xai Z (dK (TC.loopK (X:=Nat×Value×Array Nm) [1,2] [0] (fun ⟨s,w,d⟩=>[(5,.int .i64 ((s:Nat):Int)),(3,w)]) (fun ⟨s,w,d⟩=>[(1,ownA encN 4 98 w d)]) (fun ⟨s,w,d⟩=>((s<=l.S)/\(d.size:Int)=l.T+1+s * 7)/\NI l d) (fun ⟨s,w,d⟩=>l.S - s) ((0,_,d++#[⟨2,0,0,0⟩])) ⟨⟨by omega,by simp; omega⟩,hN⟩ ⟨Z,Z,Zt⟩ ⟨Z,Zt⟩ (fun y hI=>?_))))
 obtain ⟨s,w,d⟩:=y
 obtain ⟨⟨hs,hsz⟩,hN⟩:=hI
 replace hs:s<=l.S:=hs
 replace hsz:(d.size:Int)=l.T+1+s * 7:=hsz
 replace hN:NI l d:=hN
 refine TC.sub (env':=[(5,_),(3,_),(1,_),(2,_)]) (L':=[(1,_),(0,_)]) ⟨Z,Z,Z,Z,Zt⟩ ⟨Z,Z,Zt⟩ (sB (xmi Z (xf 1 zgf Z (xli 0 zaa Z Z (TL.lss Z Z Z Z (fun q2=>?_) (fun q2=>?_))))))
 refine TL.done (TQ.then (TC.condT Z (TC.skip (TQ.then (TC.seq (TC.block (TC.region (xmv Z ?_))))))))
 refine xmi Z (TL.bld [.int .i64 0,.int .i64 0,.int .i64 0,.int .i64 0] [(.int _ _),(.int _ _),(.int _ _),(.int _ _)] [_,_,_,_] zci zen ⟨Z,Z,Z,Z,Zt⟩ ⟨Z,Z⟩ Z Z (xmi Z (TL.bld [.int .i64 0,.int .i64 0,.int .i64 0,.int .i64 0] [(.int _ _),(.int _ _),(.int _ _),(.int _ _)] [_,_,_,_] zci zen ⟨Z,Z,Z,Z,Zt⟩ ⟨Z,Z⟩ Z Z (xmi Z (TL.bld [.int .i64 0,.int .i64 0,.int .i64 0,.int .i64 0] [(.int _ _),(.int _ _),(.int _ _),(.int _ _)] [_,_,_,_] zci zen ⟨Z,Z,Z,Z,Zt⟩ ⟨Z,Z⟩ Z Z (xmi Z ?_))))))
 refine TL.bld [.int .i64 0,.int .i64 0,.int .i64 0,.int .i64 0] [(.int _ _),(.int _ _),(.int _ _),(.int _ _)] [_,_,_,_] zci zen ⟨Z,Z,Z,Z,Zt⟩ ⟨Z,Z⟩ Z Z (xmi Z (TL.bld [.int .i64 0,.int .i64 0,.int .i64 0,.int .i64 0] [(.int _ _),(.int _ _),(.int _ _),(.int _ _)] [_,_,_,_] zci zen ⟨Z,Z,Z,Z,Zt⟩ ⟨Z,Z⟩ Z Z (xmi Z (TL.bld [.int .i64 0,.int .i64 0,.int .i64 0,.int .i64 0] [(.int _ _),(.int _ _),(.int _ _),(.int _ _)] [_,_,_,_] zci zen ⟨Z,Z,Z,Z,Zt⟩ ⟨Z,Z⟩ Z Z (xmi Z ?_)))))
 refine TL.bld [.int .i64 0,.int .i64 0,.int .i64 0,.int .i64 0] [(.int _ _),(.int _ _),(.int _ _),(.int _ _)] [_,_,_,_] zci zen ⟨Z,Z,Z,Z,Zt⟩ ⟨Z,Z⟩ Z Z (TL.bsN 6 [_,_,_,_,_,_,_] (([(⟨3,s,0,0⟩:Nm),(⟨4,s,0,0⟩:Nm),(⟨5,s,0,0⟩:Nm),(⟨6,s,0,0⟩:Nm),(⟨6,s,1,0⟩:Nm),(⟨7,s,0,0⟩:Nm),(⟨7,s,1,0⟩:Nm)].map encN).flatten) zbx zci ⟨Z,Z,Z,Z,Z,Z,Z,Zt⟩ Z (litN [(⟨3,s,0,0⟩:Nm),(⟨4,s,0,0⟩:Nm),(⟨5,s,0,0⟩:Nm),(⟨6,s,0,0⟩:Nm),(⟨6,s,1,0⟩:Nm),(⟨7,s,0,0⟩:Nm),(⟨7,s,1,0⟩:Nm)] (fun x=>(zl7 x).1)) Z Z (fun bk6=>⟨Zt,?_⟩))
 refine TL.appS 1 6 (d2:=#[⟨3,s,0,0⟩,⟨4,s,0,0⟩,⟨5,s,0,0⟩,⟨6,s,0,0⟩,⟨6,s,1,0⟩,⟨7,s,0,0⟩,⟨7,s,1,0⟩]) Z (Z) Z (fun _=>Z) Z Z (zz5 #[(⟨3,s,0,0⟩:Nm),(⟨4,s,0,0⟩:Nm),(⟨5,s,0,0⟩:Nm),(⟨6,s,0,0⟩:Nm),(⟨6,s,1,0⟩:Nm),(⟨7,s,0,0⟩:Nm),(⟨7,s,1,0⟩:Nm)] (fun x=>(zl7 x).1)) zeF (by decide) zcy (by have:=NI.le hl hN; have:=zdj hl; simp; omega) Z Z (fun v7=>⟨Zt,?_⟩)
 refine xav Z (dI (xmi Z (TL.add (((s+1:Nat):Int)) Z Z (wrN (by omega)) Z Z (xai Z (TL.done (TQ.roundK ((s+1,_,_)) ⟨⟨⟨(show s+1<=l.S by omega),(show ((d++#[_,_,_,_,_,_,_]).size:Int)=_+((s+1:Nat):Int) * 7 by simp; omega)⟩,hN.slot hl (by omega) hsz⟩,(show l.S - (s+1)<l.S - s by omega)⟩ ⟨Z,Z,Zt⟩ ⟨Z,Zt⟩ (kE2 Z Z Zt) (kL1 Z Zt)))))))
 refine dE Z (TC.seq (TC.seq ?_))
 obtain rfl:s=l.S:=by omega
 refine TC.region (xai Z (dK (TC.loopK (X:=Nat×Value×Array Nm) [1,2] [0] (fun ⟨v,w,d⟩=>[(6,.int .i64 ((v:Nat):Int)),(3,w)]) (fun ⟨v,w,d⟩=>[(1,ownA encN 4 98 w d)]) (fun ⟨v,w,d⟩=>((v<=l.V)/\(d.size:Int)=l.heads+v * l.lev)/\NI l d) (fun ⟨v,w,d⟩=>l.V - v) ((0,_,d)) ⟨⟨by omega,by simp; omega⟩,hN⟩ ⟨Z,Z,Zt⟩ ⟨Z,Zt⟩ (fun y hI=>?_))))
 obtain ⟨v,w,d⟩:=y
 obtain ⟨⟨hv,hsz⟩,hN⟩:=hI
 replace hv:v<=l.V:=hv
 replace hsz:(d.size:Int)=l.heads+v * l.lev:=hsz
 replace hN:NI l d:=hN
 refine TC.sub (env':=[(6,_),(3,_),(1,_),(2,_)]) (L':=[(1,_),(0,_)]) ⟨Z,Z,Z,Z,Zt⟩ ⟨Z,Z,Zt⟩ (sB (xmi Z (xf 0 zdv Z (xli 0 zaa Z Z (TL.lss Z Z Z Z (fun q3=>?_) (fun q3=>?_))))))
 refine TL.done (TQ.then (TC.condT Z (TC.skip (TQ.then (TC.seq (TC.block (sA (xai Z ?_))))))))
 refine dK (TC.loopK (X:=Nat×Value×Array Nm) [1,2,6] [0] (fun ⟨i,w,d⟩=>[(7,.int .i64 ((i:Nat):Int)),(3,w)]) (fun ⟨i,w,d⟩=>[(1,ownA encN 4 98 w d)]) (fun ⟨i,w,d⟩=>(((i:Int)<=l.lev)/\(d.size:Int)=l.heads+v * l.lev+i)/\NI l d) (fun ⟨i,w,d⟩=>l.lev.toNat - i) ((0,_,d)) ⟨⟨by omega,by simp; omega⟩,hN⟩ ⟨Z,Z,Zt⟩ ⟨Z,Zt⟩ (fun y hI=>?_))
 obtain ⟨i,w,d⟩:=y
 obtain ⟨⟨hi,hsz⟩,hN⟩:=hI
 replace hi:(i:Int)<=l.lev:=hi
 replace hsz:(d.size:Int)=l.heads+v * l.lev+i:=hsz
 replace hN:NI l d:=hN
 refine TC.sub (env':=[(7,_),(3,_),(1,_),(2,_),(6,_)]) (L':=[(1,_),(0,_)]) ⟨Z,Z,Z,Z,Z,Zt⟩ ⟨Z,Z,Zt⟩ (sB (xmi Z (xL3 0 zgg Z Z (xD [] (zfO hl) zte Z (TL.lss Z Z Z Z (fun q4=>?_) (fun q4=>?_))))))
 refine TL.done (TQ.then (TC.condT Z (TC.skip (TQ.then (TC.seq (TC.block (TC.region (xmv Z ?_))))))))
 refine xmi Z (xmi Z (TL.bld [.int .i64 0,.int .i64 0,.int .i64 0,.int .i64 0] [(.int _ _),(.int _ _),(.int _ _),(.int _ _)] [_,_,_,_] zci zen ⟨Z,Z,Z,Z,Zt⟩ ⟨Z,Z⟩ Z Z (TL.bsN 8 [_] (encN ⟨8,v,i,0⟩) zbx zci ⟨Z,Zt⟩ Z (lit1 Z) Z Z (fun bk8=>⟨Zt,?_⟩))))
 refine TL.appS 1 8 (d2:=#[⟨8,v,i,0⟩]) Z (Z) Z (fun _=>Z) Z Z (row1 Z) zeF (by decide) zcy (by have:=NI.le hl hN; have:=zdj hl; simp; omega) Z Z (fun v9=>⟨Zt,?_⟩)
 refine xav Z (dI (xmi Z (TL.add (((i+1:Nat):Int)) Z Z (wrN (by omega)) Z Z (xai Z (TL.done (TQ.roundK ((i+1,_,_)) ⟨⟨⟨(show ((i+1:Nat):Int)<=l.lev by omega),(show ((d++#[_]).size:Int)=_+((i+1:Nat):Int) by simp; omega)⟩,hN.push (by rw [zlk hl (by omega) (by omega),zlN hl (by omega) (by omega)]; omega)⟩,(show l.lev.toNat - (i+1)<l.lev.toNat - i by omega)⟩ ⟨Z,Z,Zt⟩ ⟨Z,Zt⟩ (kE3 Z Z Z Zt) (kL1 Z Zt)))))))
 refine TL.done (TQ.then (TC.condF Z (TC.exit (TQ.thenExit (TQ.thenExit (TQ.blockHere (TQ.inBlock (TQ.then ?_))))))))
 refine TC.region (xmi Z (TL.add (((v+1:Nat):Int)) Z Z (wrN (by omega)) Z Z (xai Z (TL.done (TQ.roundK ((v+1,_,_)) ⟨⟨⟨(show v+1<=l.V by omega),(show _=_+((v+1:Nat):Int) * _ by rw [mulS]; omega)⟩,hN⟩,(show l.V - (v+1)<l.V - v by omega)⟩ ⟨Z,Z,Zt⟩ ⟨Z,Zt⟩ (kE2 Z Z Zt) (kL1 Z Zt))))))
 refine dE Z (TC.seq (TC.seq ?_))
 obtain rfl:v=l.V:=by omega
 refine TC.region (xai Z (dK (TC.loopK (X:=Nat×Value×Array Nm) [1,2] [0] (fun ⟨a,w,d⟩=>[(8,.int .i64 ((a:Nat):Int)),(3,w)]) (fun ⟨a,w,d⟩=>[(1,ownA encN 4 98 w d)]) (fun ⟨a,w,d⟩=>((a<=l.V)/\(d.size:Int)=l.edges+tri l.V a)/\NI l d) (fun ⟨a,w,d⟩=>l.V - a) ((0,_,d)) ⟨⟨by omega,by simp; omega⟩,hN⟩ ⟨Z,Z,Zt⟩ ⟨Z,Zt⟩ (fun y hI=>?_))))
 obtain ⟨a,w,d⟩:=y
 obtain ⟨⟨ha,hsz⟩,hN⟩:=hI
 replace ha:a<=l.V:=ha
 replace hsz:(d.size:Int)=l.edges+tri l.V a:=hsz
 replace hN:NI l d:=hN
 refine TC.sub (env':=[(8,_),(3,_),(1,_),(2,_)]) (L':=[(1,_),(0,_)]) ⟨Z,Z,Z,Z,Zt⟩ ⟨Z,Z,Zt⟩ (sB (xmi Z (xf 0 zdv Z (xli 0 zaa Z Z (TL.lss Z Z Z Z (fun q4=>?_) (fun q4=>?_))))))
 refine TL.done (TQ.then (TC.condT Z (TC.skip (TQ.then (TC.seq (TC.block (sA (xmi Z ?_))))))))
 refine TL.add (((a+1:Nat):Int)) Z Z (wrN (by omega)) Z Z (xai Z (dK (TC.loopK (X:=Nat×Value×Array Nm) [1,2,8] [0] (fun ⟨b,w,d⟩=>[(9,.int .i64 ((b:Nat):Int)),(3,w)]) (fun ⟨b,w,d⟩=>[(1,ownA encN 4 98 w d)]) (fun ⟨b,w,d⟩=>((a+1<=b/\b<=l.V)/\(d.size:Int)=l.edges+tri l.V a+b - a - 1)/\NI l d) (fun ⟨b,w,d⟩=>l.V - b) ((a+1,_,d)) ⟨⟨⟨Nat.le_refl _,by omega⟩,by simp; omega⟩,hN⟩ ⟨Z,Z,Zt⟩ ⟨Z,Zt⟩ (fun y hI=>?_))))
 obtain ⟨b,w,d⟩:=y
 obtain ⟨⟨hb,hsz⟩,hN⟩:=hI
 replace hb:a+1<=b/\b<=l.V:=hb
 replace hsz:(d.size:Int)=l.edges+tri l.V a+b - a - 1:=hsz
 replace hN:NI l d:=hN
 refine TC.sub (env':=[(9,_),(3,_),(1,_),(2,_),(8,_)]) (L':=[(1,_),(0,_)]) ⟨Z,Z,Z,Z,Z,Zt⟩ ⟨Z,Z,Zt⟩ (sB (xmi Z (xf 0 zdv Z (xli 0 zaa Z Z (TL.lss Z Z Z Z (fun q5=>?_) (fun q5=>?_))))))
 refine TL.done (TQ.then (TC.condT Z (TC.skip (TQ.then (TC.seq (TC.block (TC.region (xmv Z ?_))))))))
 refine xmi Z (xmi Z (TL.bld [.int .i64 0,.int .i64 0,.int .i64 0,.int .i64 0] [(.int _ _),(.int _ _),(.int _ _),(.int _ _)] [_,_,_,_] zci zen ⟨Z,Z,Z,Z,Zt⟩ ⟨Z,Z⟩ Z Z (TL.bsN 10 [_] (encN ⟨9,a,b,0⟩) zbx zci ⟨Z,Zt⟩ Z (lit1 Z) Z Z (fun bk10=>⟨Zt,?_⟩))))
 refine TL.appS 1 10 (d2:=#[⟨9,a,b,0⟩]) Z (Z) Z (fun _=>Z) Z Z (row1 Z) zeF (by decide) zcy (by have:=NI.le hl hN; have:=zdj hl; simp; omega) Z Z (fun v11=>⟨Zt,?_⟩)
 refine xav Z (dI (xmi Z (TL.add (((b+1:Nat):Int)) Z Z (wrN (by omega)) Z Z (xai Z (TL.done (TQ.roundK ((b+1,_,_)) ⟨⟨⟨(show a+1<=b+1/\b+1<=l.V by omega),(show ((d++#[_]).size:Int)=_+((b+1:Nat):Int) - _ - 1 by simp; omega)⟩,hN.push (by rw [zll hl (by omega) (by omega),(zgL hl (by omega) (by omega)).1]; omega)⟩,(show l.V - (b+1)<l.V - b by omega)⟩ ⟨Z,Z,Zt⟩ ⟨Z,Zt⟩ (kE3 Z Z Z Zt) (kL1 Z Zt)))))))
 refine TL.done (TQ.then (TC.condF Z (TC.exit (TQ.thenExit (TQ.thenExit (TQ.blockHere (TQ.inBlock (TQ.then ?_))))))))
 refine TC.region (xmi Z (TL.add (((a+1:Nat):Int)) Z Z (wrN (by omega)) Z Z (xai Z (TL.done (TQ.roundK ((a+1,_,_)) ⟨⟨⟨(show a+1<=l.V by omega),(show _=_+tri _ ((a+1:Nat):Int) by rw [Int.natCast_succ,zix]; omega)⟩,hN⟩,(show l.V - (a+1)<l.V - a by omega)⟩ ⟨Z,Z,Zt⟩ ⟨Z,Zt⟩ (kE2 Z Z Zt) (kL1 Z Zt))))))
 refine dE Z (TC.seq (TC.seq ?_))
 obtain rfl:a=l.V:=by omega
 refine TC.region (xai Z (dK (TC.loopK (X:=Nat×Value×Array Nm) [1,2] [0] (fun ⟨x,w,d⟩=>[(10,.int .i64 ((x+1:Nat):Int)),(3,w)]) (fun ⟨x,w,d⟩=>[(1,ownA encN 4 98 w d)]) (fun ⟨x,w,d⟩=>(((x:Int)<=l.nodes)/\(d.size:Int)=l.base+x * 7)/\NI l d) (fun ⟨x,w,d⟩=>l.nodes.toNat - x) ((0,_,d)) ⟨⟨by omega,by simp; omega⟩,hN⟩ ⟨Z,Z,Zt⟩ ⟨Z,Zt⟩ (fun y hI=>?_))))
 obtain ⟨x,w,d⟩:=y
 obtain ⟨⟨hx,hsz⟩,hN⟩:=hI
 replace hx:(x:Int)<=l.nodes:=hx
 replace hsz:(d.size:Int)=l.base+x * 7:=hsz
 replace hN:NI l d:=hN
 refine TC.sub (env':=[(10,_),(3,_),(1,_),(2,_)]) (L':=[(1,_),(0,_)]) ⟨Z,Z,Z,Z,Zt⟩ ⟨Z,Z,Zt⟩ (sB (xmi Z (xL3 0 zgg Z Z (TL.call [] [12] (zmD hl) ⟨Z,Zt⟩ Zt zw1 Z Z Z Z ?_))))
 rintro x9 Bs ⟨dn,rfl,hNn,hszn⟩
 refine ⟨Z,Zt,?_⟩
 refine TL.ownV 12 Z (fun a9 c9 hv9=>?_)
 subst hv9
 refine xz zbx Z (TL.leq Z Z Z Z (fun q5=>?_) (fun q5=>?_))
 refine TL.done (TQ.then (TC.condT Z (TC.skip (TQ.then (TC.seq (TC.block (sA (xai Z ?_))))))))
 refine dK (TC.loopK (X:=Nat×Value×Array Nm) [1,2,10] [0,12] (fun ⟨f,w,d⟩=>[(11,.int .i64 ((f:Nat):Int)),(3,w)]) (fun ⟨f,w,d⟩=>[(1,ownA encN 4 98 w d)]) (fun ⟨f,w,d⟩=>((f<=7)/\(d.size:Int)=l.base+x * 7+f)/\NI l d) (fun ⟨f,w,d⟩=>7 - f) ((0,_,d)) ⟨⟨by omega,by simp; omega⟩,hN⟩ ⟨Z,Z,Zt⟩ ⟨Z,Zt⟩ (fun y hI=>?_))
 obtain ⟨f,w,d⟩:=y
 obtain ⟨⟨hf,hsz⟩,hN⟩:=hI
 replace hf:f<=7:=hf
 replace hsz:(d.size:Int)=l.base+x * 7+f:=hsz
 replace hN:NI l d:=hN
 refine TC.sub (env':=[(11,_),(3,_),(1,_),(2,_),(10,_)]) (L':=[(1,_),(0,_),(12,_)]) ⟨Z,Z,Z,Z,Z,Zt⟩ ⟨Z,Z,Z,Zt⟩ (sB (xmi Z (TL.lss Z Z Z Z (fun q6=>?_) (fun q6=>?_))))
 refine TL.done (TQ.then (TC.condT Z (TC.skip (TQ.then (TC.seq (TC.block (TC.region (xmv Z ?_))))))))
 refine xmi Z (xmi Z (TL.bld [.int .i64 0,.int .i64 0,.int .i64 0,.int .i64 0] [(.int _ _),(.int _ _),(.int _ _),(.int _ _)] [_,_,_,_] zci zen ⟨Z,Z,Z,Z,Zt⟩ ⟨Z,Z⟩ Z Z (TL.bsN 13 [_] (encN ⟨10,((x+1:Nat):Int),f,0⟩) zbx zci ⟨Z,Zt⟩ Z (lit1 Z) Z Z (fun bk13=>⟨Zt,?_⟩))))
 refine TL.appS 1 13 (d2:=#[⟨10,((x+1:Nat):Int),f,0⟩]) Z (Z) Z (fun _=>Z) Z Z (row1 Z) zeF (by decide) zcy (by have:=NI.le hl hN; have:=zdj hl; simp; omega) Z Z (fun v14=>⟨Zt,?_⟩)
 refine xav Z (dI (xmi Z (TL.add (((f+1:Nat):Int)) Z Z (wrN (by omega)) Z Z (xai Z (TL.done (TQ.roundK ((f+1,_,_)) ⟨⟨⟨(show f+1<=7 by omega),(show ((d++#[_]).size:Int)=_+((f+1:Nat):Int) by simp; omega)⟩,hN.push (by rw [zmJ hl ⟨by omega,by omega⟩ (by omega),ziQ hl ⟨by omega,by omega⟩ (by omega)]; omega)⟩,(show 7 - (f+1)<7 - f by omega)⟩ ⟨Z,Z,Zt⟩ ⟨Z,Zt⟩ (kE3 Z Z Z Zt) (kL2 Z Z Zt)))))))
 refine TL.done (TQ.then (TC.condF Z (TC.exit (TQ.thenExit (TQ.thenExit (TQ.blockHere (TQ.inBlock (TQ.then ?_))))))))
 refine TC.region (xmi Z (TL.add (((x+2:Nat):Int)) Z Z (wrN (by omega)) Z Z (xai Z (TL.done (TQ.roundK ((x+1,_,_)) ⟨⟨⟨(show ((x+1:Nat):Int)<=l.nodes by omega),(show _=_+((x+1:Nat):Int) * 7 by omega)⟩,hN⟩,(show l.nodes.toNat - (x+1)<l.nodes.toNat - x by omega)⟩ ⟨Z,Z,Zt⟩ ⟨Z,Zt⟩ (kE2 Z Z Zt) (kL1 Z Zt))))))
 refine dE Z (sA (xmv Z (xav Z (dR ?_))))
 refine FQ.ret1 (v:=_) (Bs:=[_]) [1] Z Z Z ⟨Z,Zt⟩ ?_
 obtain hx:(x:Int)=l.nodes:=by omega
 exact ⟨d,Z,hN,by omega⟩
end Go.Proofs.YtabjfnfglcghfaaGreat
