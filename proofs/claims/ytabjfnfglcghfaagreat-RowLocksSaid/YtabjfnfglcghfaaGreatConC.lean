import Derived.Test.YtabjfnfglcghfaaGreatConB
set_option linter.unusedVariables false
set_option linter.unusedSimpArgs false
set_option maxRecDepth 20000
namespace Go.Proofs.YtabjfnfglcghfaaGreat
open Go.Eng Go.Tm
theorem zvq {l:Lay} (hl:l.Ok) {pb ab mb:Nat} {tg:Int} {av:Value} {σ:Array UInt64} {wa ra:Option Addr} {wn wc rc br offr:Nat} {A1:Assn} {pq:Int} {tr:Bool} {d:Array Int} (hra:0<d.size->ra=some ⟨br,offr,none⟩) (hA1:zbh A1 Tm.encI 1 br offr d.size (fun i=>d[i]!)) (hdz:d.size<=2) (htg:0<=tg/\tg<=1000)  : FnD Tryz.prog 60 [.pointer (some ⟨pb,0,none⟩),.agg #[.slice wa wn wc,.int .i64 pq,.bool tr,.slice ra d.size rc]] [pt pb (.cells #[.int .i64 l.V,.int .i64 l.S,.int .i64 l.T,.pointer (some ⟨ab,0,none⟩),.int .i64 (tg),av] 57),zam ab mb 139 29 (σ),A1] (.tuple #[]) [pt pb (.cells #[.int .i64 l.V,.int .i64 l.S,.int .i64 l.T,.pointer (some ⟨ab,0,none⟩),.int .i64 (if tr then tg+1 else tg),av] 57),zam ab mb 139 29 (zbl l d [] 0 d.size σ),A1]:=by
 refine Fn.enter (Tryz.func60) rfl rfl (fun w0 R=>?_)
 refine sA (xB 3 rfl (fun bk3=>(dB (xf 3 zdj rfl (xls 3 zha rfl rfl (xz zak rfl (xmi rfl (dK (TC.loopK (X:=Nat) [0,3,7,8] [0,2,3] (fun k=>[(9,.int .i64 ((k:Nat):Int))]) (fun k=>[(1,zam ab mb 139 29 (zbl l d [] 0 k σ))]) (fun k=>k<=d.size) (fun k=>d.size - k) (0) (Nat.zero_le _) ⟨rfl,trivial⟩ ⟨rfl,trivial⟩ (fun k hI=>?_))))))))))
 refine TC.sub (env':=[(9,_),(0,_),(3,_),(7,_),(8,_)]) (L':=[(1,_),(0,_),(2,_),(3,_)]) ⟨rfl,rfl,rfl,rfl,rfl,trivial⟩ ⟨rfl,rfl,rfl,rfl,trivial⟩ (sA (TL.lss rfl rfl rfl rfl (fun q1=>?_) (fun q1=>?_)))
 refine dS (TC.condT rfl (TC.skip (TQ.then (TC.seq (TC.block (sA (TL.iaO rfl hra rfl zak (by omega) rfl rfl (TL.ldRS 2 (.int _ _) rfl rfl hA1 (by omega) (rfl) zad rfl rfl ?_))))))))
 refine xai rfl (TL.done (TQ.then (TC.draw (od [1,3,5,7,9,11,13,15,17,18,20]) [0] fc_m (by kernel_rfl) (xmp rfl (xN0 rfl (xf 3 zcd rfl (xlp 0 zdL rfl rfl (xmp rfl ?_))))))))
 refine xN0 rfl (xf 0 zaz rfl (xL3 0 zab rfl rfl (xmi rfl (xd [] (zaV hl) zbQ rfl (kL1 rfl trivial) (xd [1] (zeS (by decide)) zku rfl (kL1 rfl trivial) (dI (TL.add (((k+1:Nat):Int)) rfl rfl (wrN (by omega)) rfl rfl (xmi rfl ?_))))))))
 refine TL.done (TQ.roundK (k+1) ⟨by omega,by omega⟩ ⟨rfl,trivial⟩ ⟨congrArg (fun z=>some (zam ab mb 139 29 (z))) zqq,trivial⟩ (kE4 rfl rfl rfl rfl trivial) (kL3 rfl rfl rfl trivial))
 refine dS (TC.condF rfl (TC.exit (TQ.thenExit (TQ.thenExit (TQ.blockHere (TQ.then (sA (xf 2 zhI rfl ?_))))))))
 refine xlb 3 zdb rfl rfl (TL.done (TQ.then (TC.cond rfl (fun q2=>?_) (fun q2=>?_))))
 refine TC.region (xmp rfl (xN0 rfl (xf 4 zeN rfl (xli 0 zad rfl rfl (TL.add _ rfl rfl (wr64 (by omega)) rfl rfl (xN0 rfl (xf 4 zeN rfl (TL.st 0 #[_,_,_,_,_,_] (.int _ _) rfl rfl rfl rfl rfl rfl zad rfl rfl trivial ?_))))))))
 refine TL.done ?_
 refine FQ.end0 (Bs:=[_,_,A1]) [0,1,2] rfl rfl ⟨rfl,rfl,rfl,trivial⟩ ?_
 obtain rfl:k=d.size:=by omega
 exact ⟨rfl,by rw [if_pos (by assumption)]⟩
 refine TC.skip ?_
 refine FQ.end0 (Bs:=[_,_,A1]) [0,1,2] rfl rfl ⟨rfl,rfl,rfl,trivial⟩ ?_
 obtain rfl:k=d.size:=by omega
 exact ⟨rfl,by rw [if_neg (by simp_all)]⟩
theorem zuS {l:Lay} (hl:l.Ok) {pb ab mb:Nat} {tg:Int} {av:Value} {σ:Array UInt64} {d:Array EdR} {o:Op3} (hd:d.size<=100) (hsl:∀ j,j<d.size->0<=d[j]!.slot/\d[j]!.slot<l.S) (hx:o.u=o.v\/o.u<0\/l.V<=o.u\/o.v<0\/l.V<=o.v):FnD Tryz.prog 54 [.pointer (some ⟨pb,0,none⟩),.agg #[.int .i64 o.kind,.int .i64 o.u,.int .i64 o.v]] [pt pb (.cells #[.int .i64 l.V,.int .i64 l.S,.int .i64 l.T,.pointer (some ⟨ab,0,none⟩),.int .i64 (tg),av] 57),zam ab mb 139 29 (σ),ownA encE 5 80 av d] (.tuple #[.agg #[.slice none 0 0,.int .i64 0,.bool false,.slice none 0 0],.slice none 0 0,.bool false]) [pt pb (.cells #[.int .i64 l.V,.int .i64 l.S,.int .i64 l.T,.pointer (some ⟨ab,0,none⟩),.int .i64 (tg),av] 57),zam ab mb 139 29 (σ),ownA encE 5 80 av d,ownA zat 3 34 (.slice none 0 0) ((#[]:Array Acc)),rowS (.slice none 0 0) #[],rowS (.slice none 0 0) #[]]:=by
 have hb:=zdH hl
 refine Fn.enter (Tryz.func54) rfl rfl (fun w0 R=>?_)
 refine sA (xB 3 rfl (fun bk3=>(TL.alloc 4 (cs:=#[.slice none 0 0,.int .i64 0,.bool false,.slice none 0 0]) zbY rfl rfl rfl (fun _=>trivial) (fun bk4=>(TL.asg (.slice none 0 0) rfl rfl rfl (xaf rfl (dS (TC.seq (TC.draw (od [1,3,5,7,9,11,13,15,17,19,21,23,25,27,29,31,33,35,37,39,41,43,45,47,49,51,53,55,57,59,61,63,65,67,69]) [0,3] fc_m (by kernel_rfl) (xf 1 zaX rfl ?_))))))))))
 refine xli 3 zad rfl rfl (xf 2 zaW rfl (xli 3 zad rfl rfl (TL.eql rfl rfl rfl rfl (fun q1=>?_) (fun q1=>?_))))
 refine xmt rfl (xo rfl (xo rfl (xo rfl (xpT rfl (xmt rfl (xo rfl (xo rfl (xo rfl ?_))))))))
 refine xo rfl (xo rfl (xo rfl (xo rfl (xo rfl (xpT rfl (xmt rfl (xo rfl (xo rfl ?_))))))))
 refine xo rfl (xpT rfl (xmt rfl (xo rfl (xo rfl (xo rfl (xo rfl (xo rfl (xo rfl ?_))))))))
 refine xo rfl (xo rfl (xpT rfl (TL.done (TQ.then (TC.condT rfl (TC.seq (TC.nilA 5 (A:=ownA zat 3 34 (.slice none 0 0) ((#[]:Array Acc))) (.inl ⟨rfl,rfl⟩) (TC.nilA 6 (A:=rowS (.slice none 0 0) #[]) zbi ?_))))))))
 refine TC.nilA 7 (A:=rowS (.slice none 0 0) #[]) zbi (TC.region (TL.bld [.slice none 0 0,.int .i64 0,.bool false,.slice none 0 0] [] [_,_,_,_] zbY zeJ trivial ⟨rfl,rfl⟩ rfl rfl (TL.stW 4 4 [_,_,_,_] rfl rfl rfl rfl rfl rfl zaq rfl rfl trivial (TL.asg (.slice none 0 0) rfl rfl rfl (xaf rfl (dRR ?_))))))
 refine FQ.retG (rs:=[.cell 4 50,.tmp 5,.tmp 6]) [(.agg _),(.slice none 0 0),(.bool false)] (Bs:=[_,_,_,_,_,_]) [0,1,2,5,6,7] rfl ⟨⟨_,_,_,_,_,4,rfl,rfl,.inr ⟨4,[_,_,_,_],zaq,rfl,rfl⟩⟩,rfl,rfl,trivial⟩ rfl rfl ⟨rfl,rfl,rfl,rfl,rfl,rfl,trivial⟩ ?_
 exact ⟨rfl,rfl⟩
 refine xmf rfl (xf 1 zaX rfl (xli 3 zad rfl rfl (TL.lss rfl rfl rfl rfl (fun q2=>?_) (fun q2=>?_))))
 refine xpH rfl (xmt rfl (xo rfl (xo rfl (xo rfl (xo rfl (xo rfl (xo rfl (xo rfl ?_))))))))
 refine xo rfl (xpT rfl (xmt rfl (xo rfl (xo rfl (xo rfl (xpT rfl (xmt rfl (xo rfl ?_))))))))
 refine xo rfl (xo rfl (xo rfl (xo rfl (xo rfl (xo rfl (xo rfl (xpT rfl (TL.done ?_))))))))
 refine TQ.then (TC.condT rfl (TC.seq (TC.nilA 8 (A:=ownA zat 3 34 (.slice none 0 0) ((#[]:Array Acc))) (.inl ⟨rfl,rfl⟩) (TC.nilA 9 (A:=rowS (.slice none 0 0) #[]) zbi (TC.nilA 10 (A:=rowS (.slice none 0 0) #[]) zbi (TC.region (TL.bld [.slice none 0 0,.int .i64 0,.bool false,.slice none 0 0] [] [_,_,_,_] zbY zeJ trivial ⟨rfl,rfl⟩ rfl rfl (TL.stW 4 4 [_,_,_,_] rfl rfl rfl rfl rfl rfl zaq rfl rfl trivial ?_))))))))
 refine TL.asg (.slice none 0 0) rfl rfl rfl (xaf rfl (dRR ?_))
 refine FQ.retG (rs:=[.cell 4 50,.tmp 5,.tmp 6]) [(.agg _),(.slice none 0 0),(.bool false)] (Bs:=[_,_,_,_,_,_]) [0,1,2,8,9,10] rfl ⟨⟨_,_,_,_,_,4,rfl,rfl,.inr ⟨4,[_,_,_,_],zaq,rfl,rfl⟩⟩,rfl,rfl,trivial⟩ rfl rfl ⟨rfl,rfl,rfl,rfl,rfl,rfl,trivial⟩ ?_
 exact ⟨rfl,rfl⟩
 refine xpF rfl (xmf rfl (xf 1 zaX rfl (xli 3 zad rfl rfl (xmp rfl (xN0 rfl (xf 0 zaz rfl (xf 0 zaA rfl (xli 0 zad rfl rfl ?_))))))))
 refine TL.geq rfl rfl rfl rfl (fun q3=>?_) (fun q3=>?_)
 refine xpH rfl (xmt rfl (xo rfl (xo rfl (xo rfl (xpT rfl (xmt rfl (xo rfl (xo rfl ?_))))))))
 refine xo rfl (xo rfl (xo rfl (xo rfl (xo rfl (xo rfl (xpT rfl (TL.done (TQ.then ?_))))))))
 refine TC.condT rfl (TC.seq (TC.nilA 11 (A:=ownA zat 3 34 (.slice none 0 0) ((#[]:Array Acc))) (.inl ⟨rfl,rfl⟩) (TC.nilA 12 (A:=rowS (.slice none 0 0) #[]) zbi (TC.nilA 13 (A:=rowS (.slice none 0 0) #[]) zbi (TC.region (TL.bld [.slice none 0 0,.int .i64 0,.bool false,.slice none 0 0] [] [_,_,_,_] zbY zeJ trivial ⟨rfl,rfl⟩ rfl rfl (TL.stW 4 4 [_,_,_,_] rfl rfl rfl rfl rfl rfl zaq rfl rfl trivial (TL.asg (.slice none 0 0) rfl rfl rfl ?_))))))))
 refine xaf rfl (dRR ?_)
 refine FQ.retG (rs:=[.cell 4 50,.tmp 5,.tmp 6]) [(.agg _),(.slice none 0 0),(.bool false)] (Bs:=[_,_,_,_,_,_]) [0,1,2,11,12,13] rfl ⟨⟨_,_,_,_,_,4,rfl,rfl,.inr ⟨4,[_,_,_,_],zaq,rfl,rfl⟩⟩,rfl,rfl,trivial⟩ rfl rfl ⟨rfl,rfl,rfl,rfl,rfl,rfl,trivial⟩ ?_
 exact ⟨rfl,rfl⟩
 refine xpF rfl (xmf rfl (xf 2 zaW rfl (xli 3 zad rfl rfl (TL.lss rfl rfl rfl rfl (fun q4=>?_) (fun q4=>?_)))))
 refine xpH rfl (xmt rfl (xo rfl (xo rfl (xo rfl (xo rfl (xo rfl (xo rfl (xo rfl ?_))))))))
 refine xo rfl (xpT rfl (TL.done (TQ.then (TC.condT rfl (TC.seq (TC.nilA 14 (A:=ownA zat 3 34 (.slice none 0 0) ((#[]:Array Acc))) (.inl ⟨rfl,rfl⟩) (TC.nilA 15 (A:=rowS (.slice none 0 0) #[]) zbi (TC.nilA 16 (A:=rowS (.slice none 0 0) #[]) zbi ?_))))))))
 refine TC.region (TL.bld [.slice none 0 0,.int .i64 0,.bool false,.slice none 0 0] [] [_,_,_,_] zbY zeJ trivial ⟨rfl,rfl⟩ rfl rfl (TL.stW 4 4 [_,_,_,_] rfl rfl rfl rfl rfl rfl zaq rfl rfl trivial (TL.asg (.slice none 0 0) rfl rfl rfl (xaf rfl (dRR ?_)))))
 refine FQ.retG (rs:=[.cell 4 50,.tmp 5,.tmp 6]) [(.agg _),(.slice none 0 0),(.bool false)] (Bs:=[_,_,_,_,_,_]) [0,1,2,14,15,16] rfl ⟨⟨_,_,_,_,_,4,rfl,rfl,.inr ⟨4,[_,_,_,_],zaq,rfl,rfl⟩⟩,rfl,rfl,trivial⟩ rfl rfl ⟨rfl,rfl,rfl,rfl,rfl,rfl,trivial⟩ ?_
 exact ⟨rfl,rfl⟩
 refine xpF rfl (xmf rfl (xf 2 zaW rfl (xli 3 zad rfl rfl (xmp rfl (xN0 rfl (xf 0 zaz rfl (xf 0 zaA rfl (xli 0 zad rfl rfl ?_))))))))
 refine TL.geq rfl rfl rfl rfl (fun q5=>?_) (fun q5=>?_)
 refine xpH rfl (TL.done (TQ.then (TC.condT rfl (TC.seq (TC.nilA 17 (A:=ownA zat 3 34 (.slice none 0 0) ((#[]:Array Acc))) (.inl ⟨rfl,rfl⟩) (TC.nilA 18 (A:=rowS (.slice none 0 0) #[]) zbi (TC.nilA 19 (A:=rowS (.slice none 0 0) #[]) zbi (TC.region ?_))))))))
 refine TL.bld [.slice none 0 0,.int .i64 0,.bool false,.slice none 0 0] [] [_,_,_,_] zbY zeJ trivial ⟨rfl,rfl⟩ rfl rfl (TL.stW 4 4 [_,_,_,_] rfl rfl rfl rfl rfl rfl zaq rfl rfl trivial (TL.asg (.slice none 0 0) rfl rfl rfl (xaf rfl (dRR ?_))))
 refine FQ.retG (rs:=[.cell 4 50,.tmp 5,.tmp 6]) [(.agg _),(.slice none 0 0),(.bool false)] (Bs:=[_,_,_,_,_,_]) [0,1,2,17,18,19] rfl ⟨⟨_,_,_,_,_,4,rfl,rfl,.inr ⟨4,[_,_,_,_],zaq,rfl,rfl⟩⟩,rfl,rfl,trivial⟩ rfl rfl ⟨rfl,rfl,rfl,rfl,rfl,rfl,trivial⟩ ?_
 exact ⟨rfl,rfl⟩
 refine xpF rfl (TL.done (TQ.then (TC.condF rfl (TC.skip (TQ.then (TC.seq ?_))))))
 exact absurd (by omega:False) id
set_option maxHeartbeats 1000000 in
theorem zuR {l:Lay} (hl:l.Ok) {pb ab mb:Nat} {tg:Int} {av:Value} {σ:Array UInt64} {d:Array EdR} {o:Op3} (hd:d.size<=100) (hsl:∀ j,j<d.size->0<=d[j]!.slot/\d[j]!.slot<l.S) (hv:¬(o.u=o.v\/o.u<0\/l.V<=o.u\/o.v<0\/l.V<=o.v)) (hz:¬(o.kind=2/\0<=atN d (min o.u o.v) (max o.u o.v) d.size)) (hz1:o.kind=1->atN d (min o.u o.v) (max o.u o.v) d.size<0->∀ s:Nat,s<l.S->∃ j,j<d.size/\d[j]!.slot=(s:Int)):FnD Tryz.prog 54 [.pointer (some ⟨pb,0,none⟩),.agg #[.int .i64 o.kind,.int .i64 o.u,.int .i64 o.v]] [pt pb (.cells #[.int .i64 l.V,.int .i64 l.S,.int .i64 l.T,.pointer (some ⟨ab,0,none⟩),.int .i64 (tg),av] 57),zam ab mb 139 29 (σ),ownA encE 5 80 av d] (.tuple #[.agg #[.slice none 0 0,.int .i64 0,.bool false,.slice none 0 0],.slice none 0 0,.bool false]) [pt pb (.cells #[.int .i64 l.V,.int .i64 l.S,.int .i64 l.T,.pointer (some ⟨ab,0,none⟩),.int .i64 (tg),av] 57),zam ab mb 139 29 (σ),ownA encE 5 80 av d,ownA zat 3 34 (.slice none 0 0) ((#[]:Array Acc)),rowS (.slice none 0 0) #[],rowS (.slice none 0 0) #[]]:=by
 have hb:=zdH hl
 refine Fn.enter (Tryz.func54) rfl rfl (fun w0 R=>?_)
 refine sA (xB 3 rfl (fun bk3=>(TL.alloc 4 (cs:=#[.slice none 0 0,.int .i64 0,.bool false,.slice none 0 0]) zbY rfl rfl rfl (fun _=>trivial) (fun bk4=>(TL.asg (.slice none 0 0) rfl rfl rfl (xaf rfl (dS (TC.seq (TC.draw (od [1,3,5,7,9,11,13,15,17,19,21,23,25,27,29,31,33,35,37,39,41,43,45,47,49,51,53,55,57,59,61,63,65,67,69]) [0,3] fc_m (by kernel_rfl) (xf 1 zaX rfl ?_))))))))))
 refine xli 3 zad rfl rfl (xf 2 zaW rfl (xli 3 zad rfl rfl (TL.eqlF rfl rfl (by omega) rfl rfl (xmf rfl (xf 1 zaX rfl (xli 3 zad rfl rfl (TL.lssF rfl rfl (by omega) rfl rfl (xpF rfl ?_))))))))
 refine xmf rfl (xf 1 zaX rfl (xli 3 zad rfl rfl (xmp rfl (xN0 rfl (xf 0 zaz rfl (xf 0 zaA rfl (xli 0 zad rfl rfl (TL.geqF rfl rfl (by omega) rfl rfl ?_))))))))
 refine xpF rfl (xmf rfl (xf 2 zaW rfl (xli 3 zad rfl rfl (TL.lssF rfl rfl (by omega) rfl rfl (xpF rfl (xmf rfl (xf 2 zaW rfl (xli 3 zad rfl rfl ?_))))))))
 refine xmp rfl (xN0 rfl (xf 0 zaz rfl (xf 0 zaA rfl (xli 0 zad rfl rfl (TL.geqF rfl rfl (by omega) rfl rfl (xpF rfl (TL.done (TQ.then ?_))))))))
 refine TC.condF rfl (TC.skip (TQ.then (TC.seq (TC.draw (od [1,3,5,7,9,11,13,15,17,19,21,23]) [3] fc_m (by kernel_rfl) (xf 1 zaX rfl (xli 3 zad rfl rfl (xf 2 zaW rfl (xli 3 zad rfl rfl ?_))))))))
 refine TL.min2 rfl rfl rfl rfl (xf 1 zaX rfl (xli 3 zad rfl rfl (xf 2 zaW rfl (xli 3 zad rfl rfl (TL.max2 rfl rfl rfl rfl (xai rfl (xai rfl (dS ?_))))))))
 refine TC.draw (od [1,3,5,7,9,13,10,15]) [0] fc_m (by kernel_rfl) (xmp rfl (xN0 rfl (xf 0 zaz rfl (xf 1 zbB rfl (xli 0 zad rfl rfl (xai rfl (TL.mkO 5 (enc:=encB) (N:=l.S) (false) rfl rfl zeK zqw rfl (by decide) (by omega) rfl rfl (fun bk5=>⟨(kL1 rfl trivial),?_⟩))))))))
 refine xas rfl (dS (TC.seq (TC.ownW 2 rfl (fun a9 g9 c9 hv9 hc9 ha9=>?_))))
 cases hv9
 refine TC.region (xmp rfl (xN0 rfl (xf 5 zcy rfl (xlv 0 zg9 rfl rfl (xz zbC rfl (xmi rfl (dK (TC.loopK (X:=Nat×Array Bool) [0,3,4,5,6,7,8,10,74,75] [0,1,2,3,4] (fun ⟨k,D⟩=>[(76,.int .i64 ((k:Nat):Int)),(9,.int .i64 (atN d (min o.u o.v) (max o.u o.v) k))]) (fun ⟨k,D⟩=>[(5,ownA encB 1 4 (.slice (some ⟨bk5,0,none⟩) l.S l.S) D)]) (fun ⟨k,D⟩=>(k<=d.size/\D.size=l.S)/\UsE d k D) (fun ⟨k,D⟩=>d.size - k) ((0,Array.replicate l.S false)) ⟨⟨Nat.zero_le _,by simp⟩,UsE.start⟩ ⟨rfl,rfl,trivial⟩ ⟨rfl,trivial⟩ (fun y hI=>?_)))))))))
 obtain ⟨k,D⟩:=y
 obtain ⟨⟨hk,hDz⟩,hU⟩:=hI
 replace hk:k<=d.size:=hk
 replace hDz:D.size=l.S:=hDz
 replace hU:UsE d k D:=hU
 refine TC.sub (env':=[(76,_),(9,_),(0,_),(3,_),(4,_),(5,_),(6,_),(7,_),(8,_),(10,_),(74,_),(75,_)]) (L':=[(5,_),(0,_),(1,_),(2,_),(3,_),(4,_)]) ⟨rfl,rfl,rfl,rfl,rfl,rfl,rfl,rfl,rfl,rfl,rfl,rfl,trivial⟩ ⟨rfl,rfl,rfl,rfl,rfl,rfl,trivial⟩ (sA (TL.lss rfl rfl rfl rfl (fun q1=>?_) (fun q1=>?_)))
 refine dS (TC.condT rfl (TC.skip (TQ.then (TC.seq (TC.block (sA (xmi rfl (TL.iaO rfl ha9 rfl zbC (by omega) rfl rfl ?_))))))))
 refine TL.ldRx 2 [_,_,_,_,_] rfl rfl (zaL ha9) (by omega) rfl zf0 rfl rfl (TL.alloc 6 (cs:=#[.int .i64 0,.int .i64 0,.int .i64 0,.int .i64 0,.bool false]) zmK rfl rfl rfl (fun _=>trivial) (fun bk6=>(xai rfl (TL.stW 6 5 [_,_,_,_,_] rfl rfl rfl rfl rfl rfl zf0 rfl rfl trivial (dS ?_)))))
 obtain ⟨s,hs⟩:∃ s:Nat,d[k]!.slot=(s:Int):=⟨d[k]!.slot.toNat,by have:=hsl k (by omega); omega⟩
 have hsz:=hsl k (by omega)
 rw [hs]
 refine TC.region (xms rfl (xf 0 zfZ rfl (xli 6 zad rfl rfl (TL.iaO rfl (fun _=>rfl) rfl za7 (by omega) rfl rfl (TL.stOF 5 (o:=0) (i:=s) (cur:=D[s]!) (u:=true) (by omega) rfl rfl rfl rfl (by omega) (rfl) ⟨rfl,rfl⟩ rfl zdb rfl rfl trivial (dA (xf 1 zhE rfl (xli 6 zad rfl rfl ?_))))))))
 refine xmi rfl (TL.eql rfl rfl rfl rfl (fun q2=>?_) (fun q2=>?_))
 refine xmt rfl (xf 2 zhD rfl (xli 6 zad rfl rfl (xmi rfl (TL.eql rfl rfl rfl rfl (fun q3=>?_) (fun q3=>?_)))))
 refine xpT rfl (TL.done (TQ.then (TC.condT rfl (TC.region (xmi rfl (xai rfl (dI (TL.add (((k+1:Nat):Int)) rfl rfl (wrN (by omega)) rfl rfl ?_))))))))
 refine xmi rfl (TL.done (TQ.roundK ((k+1,_)) ⟨⟨⟨(show k+1<=d.size by omega),(show (D.setIfInBounds _ _).size=l.S by simp; omega)⟩,hU.step hs⟩,(show d.size - (k+1)<d.size - k by omega)⟩ ⟨rfl,congrArg (fun z=>some (Value.int .i64 z)) (zok (by assumption) (by assumption)),trivial⟩ ⟨rfl,trivial⟩ (kE8 rfl rfl rfl rfl rfl rfl rfl rfl (kE2 rfl rfl trivial)) (kL5 rfl rfl rfl rfl rfl trivial)))
 refine xpG rfl (TL.done (TQ.then (TC.condF rfl (TC.skip (TQ.inBlock (TQ.then (TC.region (TL.add (((k+1:Nat):Int)) rfl rfl (wrN (by omega)) rfl rfl ?_))))))))
 refine xmi rfl (TL.done (TQ.roundK ((k+1,_)) ⟨⟨⟨(show k+1<=d.size by omega),(show (D.setIfInBounds _ _).size=l.S by simp; omega)⟩,hU.step hs⟩,(show d.size - (k+1)<d.size - k by omega)⟩ ⟨rfl,congrArg (fun z=>some (Value.int .i64 z)) (zt3 (by assumption)),trivial⟩ ⟨rfl,trivial⟩ (kE8 rfl rfl rfl rfl rfl rfl rfl rfl (kE2 rfl rfl trivial)) (kL5 rfl rfl rfl rfl rfl trivial)))
 refine xmf rfl (xo rfl (xo rfl (xo rfl (xo rfl (xpF rfl (TL.done (TQ.then (TC.condF rfl ?_))))))))
 refine TC.skip (TQ.inBlock (TQ.then (TC.region (TL.add (((k+1:Nat):Int)) rfl rfl (wrN (by omega)) rfl rfl (xmi rfl (TL.done (TQ.roundK ((k+1,_)) ⟨⟨⟨(show k+1<=d.size by omega),(show (D.setIfInBounds _ _).size=l.S by simp; omega)⟩,hU.step hs⟩,(show d.size - (k+1)<d.size - k by omega)⟩ ⟨rfl,congrArg (fun z=>some (Value.int .i64 z)) (zt4 (by assumption)),trivial⟩ ⟨rfl,trivial⟩ (kE8 rfl rfl rfl rfl rfl rfl rfl rfl (kE2 rfl rfl trivial)) (kL5 rfl rfl rfl rfl rfl trivial))))))))
 refine dS (TC.condF rfl (TC.exit (TQ.thenExit (TQ.thenExit (TQ.blockHere (TQ.then (TC.seq ?_)))))))
 obtain rfl:k=d.size:=by omega
 refine TC.region (xmp rfl (xN0 rfl (xf 4 zeN rfl (xli 0 zad rfl rfl (TL.bld [.int .i64 0,.int .i64 0] [(.int _ _),(.int _ _)] [_,_] zfF zjk ⟨rfl,rfl,trivial⟩ ⟨rfl,rfl⟩ rfl rfl (TL.alloc 7 (cs:=#[.int .i64 0,.int .i64 0]) zfF rfl rfl rfl (fun _=>trivial) (fun bk7=>(TL.stW 7 2 [_,_] rfl rfl rfl rfl rfl rfl za9 rfl rfl trivial (dS ?_)))))))))
 refine TC.block (sA (xf 0 zdX rfl (xli 3 zad rfl rfl (TL.eql rfl rfl rfl rfl (fun q2=>?_) (fun q2=>?_)))))
 refine xmt rfl (xmi rfl (TL.geq rfl rfl rfl rfl (fun q3=>?_) (fun q3=>?_)))
 refine xpT rfl (xat rfl (TL.done (TQ.then (TC.condT rfl (TC.seq ?_)))))
 exact absurd (by exact hz ⟨by assumption,by assumption⟩:False) id
 refine xpG rfl (xaf rfl (TL.done (TQ.then (TC.condF rfl (sA (xf 0 zdX rfl (xli 3 zad rfl rfl (TL.eql rfl rfl rfl rfl (fun q4=>?_) (fun q4=>?_)))))))))
 refine xmt rfl (xmi rfl (TL.lss rfl rfl rfl rfl (fun q5=>?_) (fun q5=>?_)))
 refine xpT rfl (xat rfl (dT rfl (xms rfl (xz za7 rfl (xmi rfl (dK (TC.loopK (X:=Nat) [0,3,4,7,8,13,162,163] [0,1,2,3,4,5,7] (fun s=>[(164,.int .i64 ((s:Nat):Int))]) (fun s=>[]) (fun s=>s<=l.S) (fun s=>l.S - s) (0) (Nat.zero_le _) ⟨rfl,trivial⟩ trivial (fun s hI=>(TC.sub (env':=[(164,_),(0,_),(3,_),(4,_),(7,_),(8,_),(13,_),(162,_),(163,_)]) (L':=[(0,_),(1,_),(2,_),(3,_),(4,_),(5,_),(7,_)]) ⟨rfl,rfl,rfl,rfl,rfl,rfl,rfl,rfl,rfl,trivial⟩ ⟨rfl,rfl,rfl,rfl,rfl,rfl,rfl,trivial⟩ ?_)))))))))
 refine sA (TL.lss rfl rfl rfl rfl (fun q6=>?_) (fun q6=>?_))
 refine dS (TC.condT rfl (TC.skip (TQ.then (TC.seq (TC.block (sA (xmi rfl (TL.iaO rfl (fun _=>rfl) rfl za7 (by omega) rfl rfl ?_))))))))
 refine TL.ldRS 5 (.bool _) rfl rfl (zel (by omega)) (by omega) (rfl) zdb rfl rfl (xai rfl (xab rfl (dA (xmb rfl (TL.cases rfl (fun q7=>?_) (fun q7=>?_))))))
 refine xnt rfl (TL.done (TQ.then (TC.condF rfl (TC.skip (TQ.inBlock (TQ.then (TC.region (TL.add (((s+1:Nat):Int)) rfl rfl (wrN (by omega)) rfl rfl ?_))))))))
 refine xmi rfl (TL.done (TQ.roundK (s+1) ⟨by omega,by omega⟩ ⟨rfl,trivial⟩ trivial (kE8 rfl rfl rfl rfl rfl rfl rfl rfl trivial) (kL7 rfl rfl rfl rfl rfl rfl rfl trivial)))
 refine xnf rfl (TL.done (TQ.then (TC.condT rfl (TC.seq ?_))))
 exact absurd (by exact absurd ((hU _ (by omega)).2 (hz1 (by assumption) (by assumption) s (by omega))) (by simp_all):False) id
 refine dS (TC.condF rfl (TC.exit (TQ.thenExit (TQ.thenExit (TQ.blockHere (TQ.inBlock (TQ.then (TC.seq ?_))))))))
 refine TC.nilA 8 (A:=ownA zat 3 34 (.slice none 0 0) ((#[]:Array Acc))) (.inl ⟨rfl,rfl⟩) (TC.nilA 9 (A:=rowS (.slice none 0 0) #[]) zbi (TC.nilA 10 (A:=rowS (.slice none 0 0) #[]) zbi (TC.region (TL.bld [.slice none 0 0,.int .i64 0,.bool false,.slice none 0 0] [] [_,_,_,_] zbY zeJ trivial ⟨rfl,rfl⟩ rfl rfl (TL.stW 4 4 [_,_,_,_] rfl rfl rfl rfl rfl rfl zaq rfl rfl trivial (TL.asg (.slice none 0 0) rfl rfl rfl (xaf rfl (dR ?_))))))))
 refine FQ.retG (rs:=[.cell 4 50,.tmp 5,.tmp 6]) [(.agg _),(.slice none 0 0),(.bool false)] (Bs:=[_,_,_,_,_,_]) [0,1,2,8,9,10] rfl ⟨⟨_,_,_,_,_,4,rfl,rfl,.inr ⟨4,[_,_,_,_],zaq,rfl,rfl⟩⟩,rfl,rfl,trivial⟩ rfl rfl ⟨rfl,rfl,rfl,rfl,rfl,rfl,trivial⟩ ?_
 exact ⟨rfl,rfl⟩
 refine xpG rfl (xaf rfl (TL.done (TQ.then (TC.condF rfl (TC.skip (TQ.inBlock (TQ.then (TC.seq ?_))))))))
 refine TC.nilA 11 (A:=ownA zat 3 34 (.slice none 0 0) ((#[]:Array Acc))) (.inl ⟨rfl,rfl⟩) (TC.nilA 12 (A:=rowS (.slice none 0 0) #[]) zbi (TC.nilA 13 (A:=rowS (.slice none 0 0) #[]) zbi (TC.region (TL.bld [.slice none 0 0,.int .i64 0,.bool false,.slice none 0 0] [] [_,_,_,_] zbY zeJ trivial ⟨rfl,rfl⟩ rfl rfl (TL.stW 4 4 [_,_,_,_] rfl rfl rfl rfl rfl rfl zaq rfl rfl trivial (TL.asg (.slice none 0 0) rfl rfl rfl (xaf rfl (dR ?_))))))))
 refine FQ.retG (rs:=[.cell 4 50,.tmp 5,.tmp 6]) [(.agg _),(.slice none 0 0),(.bool false)] (Bs:=[_,_,_,_,_,_]) [0,1,2,11,12,13] rfl ⟨⟨_,_,_,_,_,4,rfl,rfl,.inr ⟨4,[_,_,_,_],zaq,rfl,rfl⟩⟩,rfl,rfl,trivial⟩ rfl rfl ⟨rfl,rfl,rfl,rfl,rfl,rfl,trivial⟩ ?_
 exact ⟨rfl,rfl⟩
 refine xmf rfl (xo rfl (xo rfl (xpF rfl (xaf rfl (TL.done (TQ.then (TC.condF rfl (TC.skip ?_))))))))
 refine TQ.inBlock (TQ.then (TC.seq (TC.nilA 14 (A:=ownA zat 3 34 (.slice none 0 0) ((#[]:Array Acc))) (.inl ⟨rfl,rfl⟩) (TC.nilA 15 (A:=rowS (.slice none 0 0) #[]) zbi (TC.nilA 16 (A:=rowS (.slice none 0 0) #[]) zbi (TC.region (TL.bld [.slice none 0 0,.int .i64 0,.bool false,.slice none 0 0] [] [_,_,_,_] zbY zeJ trivial ⟨rfl,rfl⟩ rfl rfl (TL.stW 4 4 [_,_,_,_] rfl rfl rfl rfl rfl rfl zaq rfl rfl trivial ?_))))))))
 refine TL.asg (.slice none 0 0) rfl rfl rfl (xaf rfl (dR ?_))
 refine FQ.retG (rs:=[.cell 4 50,.tmp 5,.tmp 6]) [(.agg _),(.slice none 0 0),(.bool false)] (Bs:=[_,_,_,_,_,_]) [0,1,2,14,15,16] rfl ⟨⟨_,_,_,_,_,4,rfl,rfl,.inr ⟨4,[_,_,_,_],zaq,rfl,rfl⟩⟩,rfl,rfl,trivial⟩ rfl rfl ⟨rfl,rfl,rfl,rfl,rfl,rfl,trivial⟩ ?_
 exact ⟨rfl,rfl⟩
 refine xmf rfl (xo rfl (xo rfl (xpF rfl (xaf rfl (TL.done (TQ.then (TC.condF rfl (sA ?_))))))))
 refine xf 0 zdX rfl (xli 3 zad rfl rfl (TL.eql rfl rfl rfl rfl (fun q3=>?_) (fun q3=>?_)))
 refine xmt rfl (xmi rfl (TL.lss rfl rfl rfl rfl (fun q4=>?_) (fun q4=>?_)))
 refine xpT rfl (xat rfl (dT rfl (xms rfl (xz za7 rfl (xmi rfl (dK (TC.loopK (X:=Nat) [0,3,4,7,8,13,162,163] [0,1,2,3,4,5,7] (fun s=>[(164,.int .i64 ((s:Nat):Int))]) (fun s=>[]) (fun s=>s<=l.S) (fun s=>l.S - s) (0) (Nat.zero_le _) ⟨rfl,trivial⟩ trivial (fun s hI=>(TC.sub (env':=[(164,_),(0,_),(3,_),(4,_),(7,_),(8,_),(13,_),(162,_),(163,_)]) (L':=[(0,_),(1,_),(2,_),(3,_),(4,_),(5,_),(7,_)]) ⟨rfl,rfl,rfl,rfl,rfl,rfl,rfl,rfl,rfl,trivial⟩ ⟨rfl,rfl,rfl,rfl,rfl,rfl,rfl,trivial⟩ ?_)))))))))
 refine sA (TL.lss rfl rfl rfl rfl (fun q5=>?_) (fun q5=>?_))
 refine dS (TC.condT rfl (TC.skip (TQ.then (TC.seq (TC.block (sA (xmi rfl (TL.iaO rfl (fun _=>rfl) rfl za7 (by omega) rfl rfl ?_))))))))
 refine TL.ldRS 5 (.bool _) rfl rfl (zel (by omega)) (by omega) (rfl) zdb rfl rfl (xai rfl (xab rfl (dA (xmb rfl (TL.cases rfl (fun q6=>?_) (fun q6=>?_))))))
 refine xnt rfl (TL.done (TQ.then (TC.condF rfl (TC.skip (TQ.inBlock (TQ.then (TC.region (TL.add (((s+1:Nat):Int)) rfl rfl (wrN (by omega)) rfl rfl ?_))))))))
 refine xmi rfl (TL.done (TQ.roundK (s+1) ⟨by omega,by omega⟩ ⟨rfl,trivial⟩ trivial (kE8 rfl rfl rfl rfl rfl rfl rfl rfl trivial) (kL7 rfl rfl rfl rfl rfl rfl rfl trivial)))
 refine xnf rfl (TL.done (TQ.then (TC.condT rfl (TC.seq ?_))))
 exact absurd (by exact absurd ((hU _ (by omega)).2 (hz1 (by assumption) (by assumption) s (by omega))) (by simp_all):False) id
 refine dS (TC.condF rfl (TC.exit (TQ.thenExit (TQ.thenExit (TQ.blockHere (TQ.inBlock (TQ.then (TC.seq ?_))))))))
 refine TC.nilA 17 (A:=ownA zat 3 34 (.slice none 0 0) ((#[]:Array Acc))) (.inl ⟨rfl,rfl⟩) (TC.nilA 18 (A:=rowS (.slice none 0 0) #[]) zbi (TC.nilA 19 (A:=rowS (.slice none 0 0) #[]) zbi (TC.region (TL.bld [.slice none 0 0,.int .i64 0,.bool false,.slice none 0 0] [] [_,_,_,_] zbY zeJ trivial ⟨rfl,rfl⟩ rfl rfl (TL.stW 4 4 [_,_,_,_] rfl rfl rfl rfl rfl rfl zaq rfl rfl trivial (TL.asg (.slice none 0 0) rfl rfl rfl (xaf rfl (dR ?_))))))))
 refine FQ.retG (rs:=[.cell 4 50,.tmp 5,.tmp 6]) [(.agg _),(.slice none 0 0),(.bool false)] (Bs:=[_,_,_,_,_,_]) [0,1,2,17,18,19] rfl ⟨⟨_,_,_,_,_,4,rfl,rfl,.inr ⟨4,[_,_,_,_],zaq,rfl,rfl⟩⟩,rfl,rfl,trivial⟩ rfl rfl ⟨rfl,rfl,rfl,rfl,rfl,rfl,trivial⟩ ?_
 exact ⟨rfl,rfl⟩
 refine xpG rfl (xaf rfl (TL.done (TQ.then (TC.condF rfl (TC.skip (TQ.inBlock (TQ.then (TC.seq ?_))))))))
 refine TC.nilA 20 (A:=ownA zat 3 34 (.slice none 0 0) ((#[]:Array Acc))) (.inl ⟨rfl,rfl⟩) (TC.nilA 21 (A:=rowS (.slice none 0 0) #[]) zbi (TC.nilA 22 (A:=rowS (.slice none 0 0) #[]) zbi (TC.region (TL.bld [.slice none 0 0,.int .i64 0,.bool false,.slice none 0 0] [] [_,_,_,_] zbY zeJ trivial ⟨rfl,rfl⟩ rfl rfl (TL.stW 4 4 [_,_,_,_] rfl rfl rfl rfl rfl rfl zaq rfl rfl trivial (TL.asg (.slice none 0 0) rfl rfl rfl (xaf rfl (dR ?_))))))))
 refine FQ.retG (rs:=[.cell 4 50,.tmp 5,.tmp 6]) [(.agg _),(.slice none 0 0),(.bool false)] (Bs:=[_,_,_,_,_,_]) [0,1,2,20,21,22] rfl ⟨⟨_,_,_,_,_,4,rfl,rfl,.inr ⟨4,[_,_,_,_],zaq,rfl,rfl⟩⟩,rfl,rfl,trivial⟩ rfl rfl ⟨rfl,rfl,rfl,rfl,rfl,rfl,trivial⟩ ?_
 exact ⟨rfl,rfl⟩
 refine xmf rfl (xo rfl (xo rfl (xpF rfl (xaf rfl (TL.done (TQ.then (TC.condF rfl (TC.skip ?_))))))))
 refine TQ.inBlock (TQ.then (TC.seq (TC.nilA 23 (A:=ownA zat 3 34 (.slice none 0 0) ((#[]:Array Acc))) (.inl ⟨rfl,rfl⟩) (TC.nilA 24 (A:=rowS (.slice none 0 0) #[]) zbi (TC.nilA 25 (A:=rowS (.slice none 0 0) #[]) zbi (TC.region (TL.bld [.slice none 0 0,.int .i64 0,.bool false,.slice none 0 0] [] [_,_,_,_] zbY zeJ trivial ⟨rfl,rfl⟩ rfl rfl (TL.stW 4 4 [_,_,_,_] rfl rfl rfl rfl rfl rfl zaq rfl rfl trivial ?_))))))))
 refine TL.asg (.slice none 0 0) rfl rfl rfl (xaf rfl (dR ?_))
 refine FQ.retG (rs:=[.cell 4 50,.tmp 5,.tmp 6]) [(.agg _),(.slice none 0 0),(.bool false)] (Bs:=[_,_,_,_,_,_]) [0,1,2,23,24,25] rfl ⟨⟨_,_,_,_,_,4,rfl,rfl,.inr ⟨4,[_,_,_,_],zaq,rfl,rfl⟩⟩,rfl,rfl,trivial⟩ rfl rfl ⟨rfl,rfl,rfl,rfl,rfl,rfl,trivial⟩ ?_
 exact ⟨rfl,rfl⟩
set_option maxHeartbeats 1000000 in
theorem zuT {l:Lay} (hl:l.Ok) {pb ab mb:Nat} {tg:Int} {av:Value} {σ:Array UInt64} {d:Array EdR} {o:Op3} (hd:d.size<=100) (hsl:∀ j,j<d.size->0<=d[j]!.slot/\d[j]!.slot<l.S) (hv:¬(o.u=o.v\/o.u<0\/l.V<=o.u\/o.v<0\/l.V<=o.v)) {t:M} {D1:Array Int} (ht:t=zaB l σ (min o.u o.v) (max o.u o.v)) (hD:D1=za1 l σ (min o.u o.v) (max o.u o.v)) (htz:0<t.size/\t.size<=20000) (hk1:o.kind=1) (hat:atN d (min o.u o.v) (max o.u o.v) d.size<0) {s:Nat} (hs9:(s:Int)<l.S) (hno:∀ j,j<d.size->d[j]!.slot≠(s:Int)) (hlt:∀ q:Nat,q<s->∃ j,j<d.size/\d[j]!.slot=(q:Int)) {b:Bool} {τ:Tr} {P:PlanS} (hg:zbt l ⟨1,tg⟩ 561 (⟨t,#[]⟩:Tr) s o.u o.v=some (b,τ)) (hP:planF l ⟨1,tg⟩ 561 D1 b o.u o.v τ=some P) (hne:0<τ.row.size):Go.Eng.Fn Tryz.prog 54 [.pointer (some ⟨pb,0,none⟩),.agg #[.int .i64 o.kind,.int .i64 o.u,.int .i64 o.v]] [pt pb (.cells #[.int .i64 l.V,.int .i64 l.S,.int .i64 l.T,.pointer (some ⟨ab,0,none⟩),.int .i64 (tg),av] 57),zam ab mb 139 29 (σ),ownA encE 5 80 av d] (fun x Bs=>∃ xa xc ya yc va v2,x=.tuple #[.agg #[.slice xa (P).work.size xc,.int .i64 (P).point,.bool (P).tree,.slice ya (P).roots.size yc],va,.bool true]/\Bs=[pt pb (.cells #[.int .i64 l.V,.int .i64 l.S,.int .i64 l.T,.pointer (some ⟨ab,0,none⟩),.int .i64 (tg),v2] 57),zam ab mb 139 29 (t),ownA encE 5 80 v2 (d++#[⟨(s:Int),min o.u o.v,max o.u o.v,0,false⟩]),ownA zat 3 34 (.slice xa (P).work.size xc) (P.work),rowS (.slice ya (P).roots.size yc) P.roots,rowS va D1]):=by
 have hb:=zdH hl
 have hDs:D1.size<=2:=by rw [hD]; exact zds
 refine Fn.enter (Tryz.func54) rfl rfl (fun w0 R=>?_)
 refine sA (xB 3 rfl (fun bk3=>(TL.alloc 4 (cs:=#[.slice none 0 0,.int .i64 0,.bool false,.slice none 0 0]) zbY rfl rfl rfl (fun _=>trivial) (fun bk4=>(TL.asg (.slice none 0 0) rfl rfl rfl (xaf rfl (dS (TC.seq (TC.draw (od [1,3,5,7,9,11,13,15,17,19,21,23,25,27,29,31,33,35,37,39,41,43,45,47,49,51,53,55,57,59,61,63,65,67,69]) [0,3] fc_m (by kernel_rfl) (xf 1 zaX rfl ?_))))))))))
 refine xli 3 zad rfl rfl (xf 2 zaW rfl (xli 3 zad rfl rfl (TL.eqlF rfl rfl (by omega) rfl rfl (xmf rfl (xf 1 zaX rfl (xli 3 zad rfl rfl (TL.lssF rfl rfl (by omega) rfl rfl (xpF rfl ?_))))))))
 refine xmf rfl (xf 1 zaX rfl (xli 3 zad rfl rfl (xmp rfl (xN0 rfl (xf 0 zaz rfl (xf 0 zaA rfl (xli 0 zad rfl rfl (TL.geqF rfl rfl (by omega) rfl rfl ?_))))))))
 refine xpF rfl (xmf rfl (xf 2 zaW rfl (xli 3 zad rfl rfl (TL.lssF rfl rfl (by omega) rfl rfl (xpF rfl (xmf rfl (xf 2 zaW rfl (xli 3 zad rfl rfl ?_))))))))
 refine xmp rfl (xN0 rfl (xf 0 zaz rfl (xf 0 zaA rfl (xli 0 zad rfl rfl (TL.geqF rfl rfl (by omega) rfl rfl (xpF rfl (TL.done (TQ.then ?_))))))))
 refine TC.condF rfl (TC.skip (TQ.then (TC.seq (TC.draw (od [1,3,5,7,9,11,13,15,17,19,21,23]) [3] fc_m (by kernel_rfl) (xf 1 zaX rfl (xli 3 zad rfl rfl (xf 2 zaW rfl (xli 3 zad rfl rfl ?_))))))))
 refine TL.min2 rfl rfl rfl rfl (xf 1 zaX rfl (xli 3 zad rfl rfl (xf 2 zaW rfl (xli 3 zad rfl rfl (TL.max2 rfl rfl rfl rfl (xai rfl (xai rfl (dS ?_))))))))
 refine TC.draw (od [1,3,5,7,9,13,10,15]) [0] fc_m (by kernel_rfl) (xmp rfl (xN0 rfl (xf 0 zaz rfl (xf 1 zbB rfl (xli 0 zad rfl rfl (xai rfl (TL.mkO 5 (enc:=encB) (N:=l.S) (false) rfl rfl zeK zqw rfl (by decide) (by omega) rfl rfl (fun bk5=>⟨(kL1 rfl trivial),?_⟩))))))))
 refine xas rfl (dS (TC.seq (TC.ownW 2 rfl (fun a9 g9 c9 hv9 hc9 ha9=>?_))))
 cases hv9
 refine TC.region (xmp rfl (xN0 rfl (xf 5 zcy rfl (xlv 0 zg9 rfl rfl (xz zbC rfl (xmi rfl (dK (TC.loopK (X:=Nat×Array Bool) [0,3,4,5,6,7,8,10,74,75] [0,1,2,3,4] (fun ⟨k,D⟩=>[(76,.int .i64 ((k:Nat):Int)),(9,.int .i64 (atN d (min o.u o.v) (max o.u o.v) k))]) (fun ⟨k,D⟩=>[(5,ownA encB 1 4 (.slice (some ⟨bk5,0,none⟩) l.S l.S) D)]) (fun ⟨k,D⟩=>(k<=d.size/\D.size=l.S)/\UsE d k D) (fun ⟨k,D⟩=>d.size - k) ((0,Array.replicate l.S false)) ⟨⟨Nat.zero_le _,by simp⟩,UsE.start⟩ ⟨rfl,rfl,trivial⟩ ⟨rfl,trivial⟩ (fun y hI=>?_)))))))))
 obtain ⟨k,D⟩:=y
 obtain ⟨⟨hk,hDz⟩,hU⟩:=hI
 replace hk:k<=d.size:=hk
 replace hDz:D.size=l.S:=hDz
 replace hU:UsE d k D:=hU
 refine TC.sub (env':=[(76,_),(9,_),(0,_),(3,_),(4,_),(5,_),(6,_),(7,_),(8,_),(10,_),(74,_),(75,_)]) (L':=[(5,_),(0,_),(1,_),(2,_),(3,_),(4,_)]) ⟨rfl,rfl,rfl,rfl,rfl,rfl,rfl,rfl,rfl,rfl,rfl,rfl,trivial⟩ ⟨rfl,rfl,rfl,rfl,rfl,rfl,trivial⟩ (sA (TL.lss rfl rfl rfl rfl (fun q1=>?_) (fun q1=>?_)))
 refine dS (TC.condT rfl (TC.skip (TQ.then (TC.seq (TC.block (sA (xmi rfl (TL.iaO rfl ha9 rfl zbC (by omega) rfl rfl ?_))))))))
 refine TL.ldRx 2 [_,_,_,_,_] rfl rfl (zaL ha9) (by omega) rfl zf0 rfl rfl (TL.alloc 6 (cs:=#[.int .i64 0,.int .i64 0,.int .i64 0,.int .i64 0,.bool false]) zmK rfl rfl rfl (fun _=>trivial) (fun bk6=>(xai rfl (TL.stW 6 5 [_,_,_,_,_] rfl rfl rfl rfl rfl rfl zf0 rfl rfl trivial (dS ?_)))))
 obtain ⟨s2,hs⟩:∃ s2:Nat,d[k]!.slot=(s2:Int):=⟨d[k]!.slot.toNat,by have:=hsl k (by omega); omega⟩
 have hsz:=hsl k (by omega)
 rw [hs]
 refine TC.region (xms rfl (xf 0 zfZ rfl (xli 6 zad rfl rfl (TL.iaO rfl (fun _=>rfl) rfl za7 (by omega) rfl rfl (TL.stOF 5 (o:=0) (i:=s2) (cur:=D[s2]!) (u:=true) (by omega) rfl rfl rfl rfl (by omega) (rfl) ⟨rfl,rfl⟩ rfl zdb rfl rfl trivial (dA (xf 1 zhE rfl (xli 6 zad rfl rfl ?_))))))))
 refine xmi rfl (TL.eql rfl rfl rfl rfl (fun q2=>?_) (fun q2=>?_))
 refine xmt rfl (xf 2 zhD rfl (xli 6 zad rfl rfl (xmi rfl (TL.eql rfl rfl rfl rfl (fun q3=>?_) (fun q3=>?_)))))
 refine xpT rfl (TL.done (TQ.then (TC.condT rfl (TC.region (xmi rfl (xai rfl (dI (TL.add (((k+1:Nat):Int)) rfl rfl (wrN (by omega)) rfl rfl ?_))))))))
 refine xmi rfl (TL.done (TQ.roundK ((k+1,_)) ⟨⟨⟨(show k+1<=d.size by omega),(show (D.setIfInBounds _ _).size=l.S by simp; omega)⟩,hU.step hs⟩,(show d.size - (k+1)<d.size - k by omega)⟩ ⟨rfl,congrArg (fun z=>some (Value.int .i64 z)) (zok (by assumption) (by assumption)),trivial⟩ ⟨rfl,trivial⟩ (kE8 rfl rfl rfl rfl rfl rfl rfl rfl (kE2 rfl rfl trivial)) (kL5 rfl rfl rfl rfl rfl trivial)))
 refine xpG rfl (TL.done (TQ.then (TC.condF rfl (TC.skip (TQ.inBlock (TQ.then (TC.region (TL.add (((k+1:Nat):Int)) rfl rfl (wrN (by omega)) rfl rfl ?_))))))))
 refine xmi rfl (TL.done (TQ.roundK ((k+1,_)) ⟨⟨⟨(show k+1<=d.size by omega),(show (D.setIfInBounds _ _).size=l.S by simp; omega)⟩,hU.step hs⟩,(show d.size - (k+1)<d.size - k by omega)⟩ ⟨rfl,congrArg (fun z=>some (Value.int .i64 z)) (zt3 (by assumption)),trivial⟩ ⟨rfl,trivial⟩ (kE8 rfl rfl rfl rfl rfl rfl rfl rfl (kE2 rfl rfl trivial)) (kL5 rfl rfl rfl rfl rfl trivial)))
 refine xmf rfl (xo rfl (xo rfl (xo rfl (xo rfl (xpF rfl (TL.done (TQ.then (TC.condF rfl ?_))))))))
 refine TC.skip (TQ.inBlock (TQ.then (TC.region (TL.add (((k+1:Nat):Int)) rfl rfl (wrN (by omega)) rfl rfl (xmi rfl (TL.done (TQ.roundK ((k+1,_)) ⟨⟨⟨(show k+1<=d.size by omega),(show (D.setIfInBounds _ _).size=l.S by simp; omega)⟩,hU.step hs⟩,(show d.size - (k+1)<d.size - k by omega)⟩ ⟨rfl,congrArg (fun z=>some (Value.int .i64 z)) (zt4 (by assumption)),trivial⟩ ⟨rfl,trivial⟩ (kE8 rfl rfl rfl rfl rfl rfl rfl rfl (kE2 rfl rfl trivial)) (kL5 rfl rfl rfl rfl rfl trivial))))))))
 refine dS (TC.condF rfl (TC.exit (TQ.thenExit (TQ.thenExit (TQ.blockHere (TQ.then (TC.seq ?_)))))))
 obtain rfl:k=d.size:=by omega
 refine TC.region (xmp rfl (xN0 rfl (xf 4 zeN rfl (xli 0 zad rfl rfl (TL.bld [.int .i64 0,.int .i64 0] [(.int _ _),(.int _ _)] [_,_] zfF zjk ⟨rfl,rfl,trivial⟩ ⟨rfl,rfl⟩ rfl rfl (TL.alloc 7 (cs:=#[.int .i64 0,.int .i64 0]) zfF rfl rfl rfl (fun _=>trivial) (fun bk7=>(TL.stW 7 2 [_,_] rfl rfl rfl rfl rfl rfl za9 rfl rfl trivial (dS ?_)))))))))
 refine TC.block (sA (xf 0 zdX rfl (xli 3 zad rfl rfl (TL.eqlF rfl rfl (by omega) rfl rfl (xmf rfl (xo rfl (xo rfl (xpF rfl ?_))))))))
 refine xaf rfl (TL.done (TQ.then (TC.condF rfl (sA (xf 0 zdX rfl (xli 3 zad rfl rfl (TL.eqlT rfl rfl (by omega) rfl rfl (xmt rfl ?_))))))))
 refine xmi rfl (TL.lssT rfl rfl (by omega) rfl rfl (xpT rfl (xat rfl (dT rfl (xms rfl (xz za7 rfl (xmi rfl (dK ?_))))))))
 refine TC.loopK (X:=Nat) [0,3,4,7,8,13,162,163] [0,1,2,3,4,5,7] (fun q=>[(164,.int .i64 ((q:Nat):Int))]) (fun q=>[]) (fun q=>q<=s) (fun q=>l.S - q) (0) (Nat.zero_le _) ⟨rfl,trivial⟩ trivial (fun q hI=>(TC.sub (env':=[(164,_),(0,_),(3,_),(4,_),(7,_),(8,_),(13,_),(162,_),(163,_)]) (L':=[(0,_),(1,_),(2,_),(3,_),(4,_),(5,_),(7,_)]) ⟨rfl,rfl,rfl,rfl,rfl,rfl,rfl,rfl,rfl,trivial⟩ ⟨rfl,rfl,rfl,rfl,rfl,rfl,rfl,trivial⟩ (sA (TL.lss rfl rfl rfl rfl (fun q2=>?_) (fun q2=>?_)))))
 refine dS (TC.condT rfl (TC.skip (TQ.then (TC.seq (TC.block (sA (xmi rfl (TL.iaO rfl (fun _=>rfl) rfl za7 (by omega) rfl rfl ?_))))))))
 refine TL.ldRS 5 (.bool _) rfl rfl (zel (by omega)) (by omega) (rfl) zdb rfl rfl (xai rfl (xab rfl (dA (xmb rfl (TL.cases rfl (fun q3=>?_) (fun q3=>?_))))))
 refine xnt rfl (TL.done (TQ.then (TC.condF rfl (TC.skip (TQ.inBlock (TQ.then (TC.region (TL.add (((q+1:Nat):Int)) rfl rfl (wrN (by omega)) rfl rfl ?_))))))))
 refine xmi rfl (TL.done (TQ.roundK (q+1) ⟨hU.more hDz (by omega) hI hno q3,by omega⟩ ⟨rfl,trivial⟩ trivial (kE8 rfl rfl rfl rfl rfl rfl rfl rfl trivial) (kL7 rfl rfl rfl rfl rfl rfl rfl trivial)))
 refine xnf rfl (TL.done (TQ.then (TC.condT rfl (TC.seq ?_))))
 obtain rfl:s=q:=(hU.first hDz (by omega) hI hlt q3).symm
 refine TC.region (xmp rfl (xmp rfl (xN0 rfl (xf 5 zcy rfl (xlv 0 zg9 rfl rfl (xmi rfl (xmi rfl (xmi rfl ?_))))))))
 refine TL.bld [.int .i64 0,.int .i64 0,.int .i64 0,.int .i64 0,.bool false] [(.int _ _),(.int _ _),(.int _ _)] [_,_,_,_,_] zmK zzN ⟨rfl,rfl,rfl,trivial⟩ ⟨rfl,rfl⟩ rfl rfl (TL.bsN 8 [_] (encE ⟨(s:Int),min o.u o.v,max o.u o.v,0,false⟩) zbC zmK ⟨rfl,trivial⟩ rfl (lit1 rfl) rfl rfl (fun bk8=>⟨trivial,?_⟩))
 refine TL.appS 2 8 (d2:=#[⟨(s:Int),min o.u o.v,max o.u o.v,0,false⟩]) rfl (rfl) rfl (fun _=>rfl) rfl rfl (row1 rfl) zlK (by decide) zgv (by simp; omega) rfl rfl (fun v9=>⟨trivial,?_⟩)
 refine TL.ownW 2 rfl (fun a6 g6 c6 hv6 _ _=>?_)
 cases hv6
 refine xN0 rfl (xf 5 zcy rfl (TL.st 0 #[_,_,_,_,_,_] _ rfl rfl rfl rfl rfl rfl zg9 rfl rfl trivial (dA (xmp rfl (xmi rfl (xmi rfl (TL.call [0,1] [0,1,10] (zja hl) ⟨rfl,rfl,rfl,trivial⟩ ⟨rfl,rfl,trivial⟩ zsN rfl rfl rfl rfl ?_)))))))
 rintro r9 Bs rfl
 refine ⟨rfl,trivial,?_⟩
 rw [show zbl l (zar (zaG l σ (min o.u o.v)) (zaG l σ (max o.u o.v))) [] 1 (zar (zaG l σ (min o.u o.v)) (zaG l σ (max o.u o.v))).size σ=t from ht.symm]
 rw [show zar (zaG l σ (min o.u o.v)) (zaG l σ (max o.u o.v))=D1 from hD.symm]
 refine TL.rowS 10 rfl (fun a7 b7 o7 c7 hv7 hc7 ha7=>⟨trivial,?_⟩)
 cases hv7
 refine xas rfl (dS (TC.draw (od [1,3,5,7,9,11,13,15,17,19,21,23,25,27,29,33,30,34,37,39]) [0,3,7] fc_m (by kernel_rfl) (xmp rfl (xN0 rfl (xf 3 zcd rfl (xlp 0 zdL rfl rfl (xmp rfl (xN0 rfl ?_))))))))
 refine xf 0 zaz rfl (xL3 0 zab rfl rfl (xL2 7 za9 rfl rfl (xms rfl (xmi rfl (xf 1 zaX rfl (xli 3 zad rfl rfl (xf 2 zaW rfl (xli 3 zad rfl rfl ?_))))))))
 refine xms rfl (TL.openE 1 rfl (fun n0=>⟨(kL3 rfl rfl rfl trivial),?_⟩))
 refine TL.call [1,10] [1,10,11,12] (zhk (p:=⟨1,tg⟩) hl ha7 hDs rfl zcP htz.1 htz.2 hg hP hne) ⟨rfl,rfl,rfl,rfl,rfl,rfl,rfl,trivial⟩ ⟨rfl,rfl,trivial⟩ zsM rfl rfl rfl rfl ?_
 rintro r9 Bs ⟨xa,xc,ya,yc,rfl,rfl⟩
 refine ⟨rfl,(kL3 rfl rfl rfl trivial),?_⟩
 refine TL.conseq 1 (B:=zam ab mb 139 29 (t)) rfl (fun h hh=>zfk hh) (kL3 rfl rfl rfl trivial) (TL.stW 4 4 [_,_,_,_] rfl rfl rfl rfl rfl rfl zaq rfl rfl (kL3 rfl rfl rfl trivial) (xas rfl (xat rfl (dR (TQ.blockRet (TQ.thenRet (TQ.thenRet (TQ.blockRet ?_))))))))
 refine TQ.blockRet (TQ.thenRet (TQ.conseq 10 (B:=rowS _ D1) rfl (fun _ h=>⟨_,_,_,_,rfl,hc7,ha7,h⟩) ?_))
 refine FQ.retG (rs:=[.cell 4 50,.tmp 5,.tmp 6]) [(.agg _),(.slice _ _ _),(.bool true)] (Bs:=[_,_,_,_,_,_]) [0,1,2,11,12,10] rfl ⟨⟨_,_,_,_,_,4,rfl,rfl,.inr ⟨4,[_,_,_,_],zaq,rfl,rfl⟩⟩,rfl,rfl,trivial⟩ rfl rfl ⟨rfl,rfl,rfl,rfl,rfl,rfl,trivial⟩ ?_
 exact ⟨_,_,_,_,_,_,rfl,rfl⟩
 refine dS (TC.condF rfl (TC.exit (TQ.thenExit (TQ.thenExit (TQ.blockHere (TQ.inBlock (TQ.then (TC.seq ?_))))))))
 exact absurd (by omega:False) id
set_option maxHeartbeats 1000000 in
theorem zuU {l:Lay} (hl:l.Ok) {pb ab mb:Nat} {tg:Int} {av:Value} {σ:Array UInt64} {d:Array EdR} {o:Op3} (hd:d.size<=100) (hsl:∀ j,j<d.size->0<=d[j]!.slot/\d[j]!.slot<l.S) (hv:¬(o.u=o.v\/o.u<0\/l.V<=o.u\/o.v<0\/l.V<=o.v)) {t:M} {D1:Array Int} (ht:t=zaB l σ (min o.u o.v) (max o.u o.v)) (hD:D1=za1 l σ (min o.u o.v) (max o.u o.v)) (htz:0<t.size/\t.size<=20000) (hk1:o.kind=2) {i:Nat} (hi:i<d.size) (hat:atN d (min o.u o.v) (max o.u o.v) d.size=(i:Int)) {q:Int} {b ok:Bool} {τ:Tr} {P:PlanS} (hg:zbu l ⟨1,tg⟩ 561 (⟨t,#[]⟩:Tr) d[i]!.slot=some ((b,q,ok),τ)) (hP:planF l ⟨1,tg⟩ 561 D1 b (eget l t d[i]!.slot).u (eget l t d[i]!.slot).v τ=some P) (hne:0<τ.row.size):Go.Eng.Fn Tryz.prog 54 [.pointer (some ⟨pb,0,none⟩),.agg #[.int .i64 o.kind,.int .i64 o.u,.int .i64 o.v]] [pt pb (.cells #[.int .i64 l.V,.int .i64 l.S,.int .i64 l.T,.pointer (some ⟨ab,0,none⟩),.int .i64 (tg),av] 57),zam ab mb 139 29 (σ),ownA encE 5 80 av d] (fun x Bs=>∃ xa xc ya yc va v2,x=.tuple #[.agg #[.slice xa (P).work.size xc,.int .i64 (P).point,.bool (P).tree,.slice ya (P).roots.size yc],va,.bool true]/\Bs=[pt pb (.cells #[.int .i64 l.V,.int .i64 l.S,.int .i64 l.T,.pointer (some ⟨ab,0,none⟩),.int .i64 (tg),v2] 57),zam ab mb 139 29 (t),ownA encE 5 80 v2 (cutA d i),ownA zat 3 34 (.slice xa (P).work.size xc) (P.work),rowS (.slice ya (P).roots.size yc) P.roots,rowS va D1]):=by
 have hb:=zdH hl
 have hDs:D1.size<=2:=by rw [hD]; exact zds
 refine Fn.enter (Tryz.func54) rfl rfl (fun w0 R=>?_)
 refine sA (xB 3 rfl (fun bk3=>(TL.alloc 4 (cs:=#[.slice none 0 0,.int .i64 0,.bool false,.slice none 0 0]) zbY rfl rfl rfl (fun _=>trivial) (fun bk4=>(TL.asg (.slice none 0 0) rfl rfl rfl (xaf rfl (dS (TC.seq (TC.draw (od [1,3,5,7,9,11,13,15,17,19,21,23,25,27,29,31,33,35,37,39,41,43,45,47,49,51,53,55,57,59,61,63,65,67,69]) [0,3] fc_m (by kernel_rfl) (xf 1 zaX rfl ?_))))))))))
 refine xli 3 zad rfl rfl (xf 2 zaW rfl (xli 3 zad rfl rfl (TL.eqlF rfl rfl (by omega) rfl rfl (xmf rfl (xf 1 zaX rfl (xli 3 zad rfl rfl (TL.lssF rfl rfl (by omega) rfl rfl (xpF rfl ?_))))))))
 refine xmf rfl (xf 1 zaX rfl (xli 3 zad rfl rfl (xmp rfl (xN0 rfl (xf 0 zaz rfl (xf 0 zaA rfl (xli 0 zad rfl rfl (TL.geqF rfl rfl (by omega) rfl rfl ?_))))))))
 refine xpF rfl (xmf rfl (xf 2 zaW rfl (xli 3 zad rfl rfl (TL.lssF rfl rfl (by omega) rfl rfl (xpF rfl (xmf rfl (xf 2 zaW rfl (xli 3 zad rfl rfl ?_))))))))
 refine xmp rfl (xN0 rfl (xf 0 zaz rfl (xf 0 zaA rfl (xli 0 zad rfl rfl (TL.geqF rfl rfl (by omega) rfl rfl (xpF rfl (TL.done (TQ.then ?_))))))))
 refine TC.condF rfl (TC.skip (TQ.then (TC.seq (TC.draw (od [1,3,5,7,9,11,13,15,17,19,21,23]) [3] fc_m (by kernel_rfl) (xf 1 zaX rfl (xli 3 zad rfl rfl (xf 2 zaW rfl (xli 3 zad rfl rfl ?_))))))))
 refine TL.min2 rfl rfl rfl rfl (xf 1 zaX rfl (xli 3 zad rfl rfl (xf 2 zaW rfl (xli 3 zad rfl rfl (TL.max2 rfl rfl rfl rfl (xai rfl (xai rfl (dS ?_))))))))
 refine TC.draw (od [1,3,5,7,9,13,10,15]) [0] fc_m (by kernel_rfl) (xmp rfl (xN0 rfl (xf 0 zaz rfl (xf 1 zbB rfl (xli 0 zad rfl rfl (xai rfl (TL.mkO 5 (enc:=encB) (N:=l.S) (false) rfl rfl zeK zqw rfl (by decide) (by omega) rfl rfl (fun bk5=>⟨(kL1 rfl trivial),?_⟩))))))))
 refine xas rfl (dS (TC.seq (TC.ownW 2 rfl (fun a9 g9 c9 hv9 hc9 ha9=>?_))))
 cases hv9
 obtain rfl:=ha9 (by omega)
 refine TC.region (xmp rfl (xN0 rfl (xf 5 zcy rfl (xlv 0 zg9 rfl rfl (xz zbC rfl (xmi rfl (dK (TC.loopK (X:=Nat×Array Bool) [0,3,4,5,6,7,8,10,74,75] [0,1,2,3,4] (fun ⟨k,D⟩=>[(76,.int .i64 ((k:Nat):Int)),(9,.int .i64 (atN d (min o.u o.v) (max o.u o.v) k))]) (fun ⟨k,D⟩=>[(5,ownA encB 1 4 (.slice (some ⟨bk5,0,none⟩) l.S l.S) D)]) (fun ⟨k,D⟩=>(k<=d.size/\D.size=l.S)/\UsE d k D) (fun ⟨k,D⟩=>d.size - k) ((0,Array.replicate l.S false)) ⟨⟨Nat.zero_le _,by simp⟩,UsE.start⟩ ⟨rfl,rfl,trivial⟩ ⟨rfl,trivial⟩ (fun y hI=>?_)))))))))
 obtain ⟨k,D⟩:=y
 obtain ⟨⟨hk,hDz⟩,hU⟩:=hI
 replace hk:k<=d.size:=hk
 replace hDz:D.size=l.S:=hDz
 replace hU:UsE d k D:=hU
 refine TC.sub (env':=[(76,_),(9,_),(0,_),(3,_),(4,_),(5,_),(6,_),(7,_),(8,_),(10,_),(74,_),(75,_)]) (L':=[(5,_),(0,_),(1,_),(2,_),(3,_),(4,_)]) ⟨rfl,rfl,rfl,rfl,rfl,rfl,rfl,rfl,rfl,rfl,rfl,rfl,trivial⟩ ⟨rfl,rfl,rfl,rfl,rfl,rfl,trivial⟩ (sA (TL.lss rfl rfl rfl rfl (fun q1=>?_) (fun q1=>?_)))
 refine dS (TC.condT rfl (TC.skip (TQ.then (TC.seq (TC.block (sA (xmi rfl (TL.iaO rfl ha9 rfl zbC (by omega) rfl rfl ?_))))))))
 refine TL.ldRx 2 [_,_,_,_,_] rfl rfl (zaL ha9) (by omega) rfl zf0 rfl rfl (TL.alloc 6 (cs:=#[.int .i64 0,.int .i64 0,.int .i64 0,.int .i64 0,.bool false]) zmK rfl rfl rfl (fun _=>trivial) (fun bk6=>(xai rfl (TL.stW 6 5 [_,_,_,_,_] rfl rfl rfl rfl rfl rfl zf0 rfl rfl trivial (dS ?_)))))
 obtain ⟨s,hs⟩:∃ s:Nat,d[k]!.slot=(s:Int):=⟨d[k]!.slot.toNat,by have:=hsl k (by omega); omega⟩
 have hsz:=hsl k (by omega)
 rw [hs]
 refine TC.region (xms rfl (xf 0 zfZ rfl (xli 6 zad rfl rfl (TL.iaO rfl (fun _=>rfl) rfl za7 (by omega) rfl rfl (TL.stOF 5 (o:=0) (i:=s) (cur:=D[s]!) (u:=true) (by omega) rfl rfl rfl rfl (by omega) (rfl) ⟨rfl,rfl⟩ rfl zdb rfl rfl trivial (dA (xf 1 zhE rfl (xli 6 zad rfl rfl ?_))))))))
 refine xmi rfl (TL.eql rfl rfl rfl rfl (fun q2=>?_) (fun q2=>?_))
 refine xmt rfl (xf 2 zhD rfl (xli 6 zad rfl rfl (xmi rfl (TL.eql rfl rfl rfl rfl (fun q3=>?_) (fun q3=>?_)))))
 refine xpT rfl (TL.done (TQ.then (TC.condT rfl (TC.region (xmi rfl (xai rfl (dI (TL.add (((k+1:Nat):Int)) rfl rfl (wrN (by omega)) rfl rfl ?_))))))))
 refine xmi rfl (TL.done (TQ.roundK ((k+1,_)) ⟨⟨⟨(show k+1<=d.size by omega),(show (D.setIfInBounds _ _).size=l.S by simp; omega)⟩,hU.step hs⟩,(show d.size - (k+1)<d.size - k by omega)⟩ ⟨rfl,congrArg (fun z=>some (Value.int .i64 z)) (zok (by assumption) (by assumption)),trivial⟩ ⟨rfl,trivial⟩ (kE8 rfl rfl rfl rfl rfl rfl rfl rfl (kE2 rfl rfl trivial)) (kL5 rfl rfl rfl rfl rfl trivial)))
 refine xpG rfl (TL.done (TQ.then (TC.condF rfl (TC.skip (TQ.inBlock (TQ.then (TC.region (TL.add (((k+1:Nat):Int)) rfl rfl (wrN (by omega)) rfl rfl ?_))))))))
 refine xmi rfl (TL.done (TQ.roundK ((k+1,_)) ⟨⟨⟨(show k+1<=d.size by omega),(show (D.setIfInBounds _ _).size=l.S by simp; omega)⟩,hU.step hs⟩,(show d.size - (k+1)<d.size - k by omega)⟩ ⟨rfl,congrArg (fun z=>some (Value.int .i64 z)) (zt3 (by assumption)),trivial⟩ ⟨rfl,trivial⟩ (kE8 rfl rfl rfl rfl rfl rfl rfl rfl (kE2 rfl rfl trivial)) (kL5 rfl rfl rfl rfl rfl trivial)))
 refine xmf rfl (xo rfl (xo rfl (xo rfl (xo rfl (xpF rfl (TL.done (TQ.then (TC.condF rfl ?_))))))))
 refine TC.skip (TQ.inBlock (TQ.then (TC.region (TL.add (((k+1:Nat):Int)) rfl rfl (wrN (by omega)) rfl rfl (xmi rfl (TL.done (TQ.roundK ((k+1,_)) ⟨⟨⟨(show k+1<=d.size by omega),(show (D.setIfInBounds _ _).size=l.S by simp; omega)⟩,hU.step hs⟩,(show d.size - (k+1)<d.size - k by omega)⟩ ⟨rfl,congrArg (fun z=>some (Value.int .i64 z)) (zt4 (by assumption)),trivial⟩ ⟨rfl,trivial⟩ (kE8 rfl rfl rfl rfl rfl rfl rfl rfl (kE2 rfl rfl trivial)) (kL5 rfl rfl rfl rfl rfl trivial))))))))
 refine dS (TC.condF rfl (TC.exit (TQ.thenExit (TQ.thenExit (TQ.blockHere (TQ.then (TC.seq ?_)))))))
 obtain rfl:k=d.size:=by omega
 rw [hat]
 refine TC.region (xmp rfl (xN0 rfl (xf 4 zeN rfl (xli 0 zad rfl rfl (TL.bld [.int .i64 0,.int .i64 0] [(.int _ _),(.int _ _)] [_,_] zfF zjk ⟨rfl,rfl,trivial⟩ ⟨rfl,rfl⟩ rfl rfl (TL.alloc 7 (cs:=#[.int .i64 0,.int .i64 0]) zfF rfl rfl rfl (fun _=>trivial) (fun bk7=>(TL.stW 7 2 [_,_] rfl rfl rfl rfl rfl rfl za9 rfl rfl trivial (dS ?_)))))))))
 refine TC.block (sA (xf 0 zdX rfl (xli 3 zad rfl rfl (TL.eqlT rfl rfl (by omega) rfl rfl (xmt rfl (xmi rfl (TL.geqT rfl rfl (by omega) rfl rfl (xpT rfl ?_))))))))
 refine xat rfl (dT rfl (xmp rfl (xN0 rfl (xf 5 zcy rfl (xlv 0 zg9 rfl rfl (xmi rfl (TL.iaO rfl ha9 rfl zbC (by omega) rfl rfl (xf 0 zfZ rfl ?_))))))))
 refine TL.ldRF 2 (.int _ _) rfl rfl (zaL ha9) (by omega) (zyR _).1 rfl zad rfl rfl (xai rfl (dS ?_))
 have hAa:zbh (ownA encE 5 80 (.slice (some ⟨g9,0,none⟩) d.size c9) d) encE 5 g9 0 d.size (fun i=>d[i]!):=zaL ha9
 refine TC.draw2 [(0,true),(2,true),(3,true),(4,true),(5,true),(6,true),(7,true),(9,true),(10,true),(11,true),(12,true),(13,true),(14,true),(15,true),(1,false),(8,false),(16,false),(17,true),(18,true)] 19 [] [0] fc_m (by kernel_rfl) (xmp rfl (xmp rfl (xN0 rfl (xf 5 zcy rfl (xlv 0 zg9 rfl rfl (xmi rfl (TL.slHi rfl rfl zbC (by omega) rfl rfl (xmp rfl ?_))))))))
 refine xN0 rfl (xf 5 zcy rfl (xlv 0 zg9 rfl rfl (xmi rfl (TL.add (((i+1:Nat):Int)) rfl rfl (wrN (by omega)) rfl rfl (TL.slLo rfl rfl zbC (by omega) rfl rfl (TL.bs0 8 encE zbC rfl rfl (fun bk8=>⟨(kL1 rfl trivial),?_⟩)))))))
 obtain ⟨ad0,had0⟩:=zoC (ad:=⟨g9,0,none⟩) (i:=0) (size:=5) (cap:=c9)
 rw [had0]
 refine TL.appS 8 2 (d2:=rngE (fun j=>d[j]!) i) rfl (zbO _ _) rfl (fun h=>had0.symm.trans (zfw (len:=d.size) (i:=0) ha9 hc9 (by omega))) rfl rfl ((hAa.take (m:=i) (by omega)).congr fun j hj=>(zgK _ hj).symm) zlK (by decide) zgv (by rw [zbO]; simp; omega) rfl rfl (fun v9=>⟨(kL1 rfl trivial),?_⟩)
 obtain ⟨ad,had⟩:=zoC (ad:=⟨g9,0,none⟩) (i:=i+1) (size:=5) (cap:=c9)
 rw [had]
 refine TL.appS 8 2 (d2:=rngE (fun j=>d[i+1+j]!) (d.size - (i+1))) rfl (zbO _ _) rfl (fun h=>had.symm.trans (zfw (len:=d.size) ha9 hc9 h)) rfl rfl ((hAa.drop (i+1) (d.size - (i+1)) (by omega)).congr fun j hj=>(zgK (fun j=>d[i+1+j]!) hj).symm) zlK (by decide) zgv (by rw [zbO]; simp [zbO]; omega) rfl rfl (fun v10=>⟨(kL1 rfl trivial),?_⟩)
 have hcut:(#[]:Array EdR)++rngE (fun j=>d[j]!) i++rngE (fun j=>d[i+1+j]!) (d.size - (i+1))=cutA d i:=by unfold cutA; simp only [Array.empty_append]
 rw [hcut]
 have hcs:(cutA d i).size=d.size - 1:=zjG hl hi
 refine TL.ownW 8 rfl (fun a6 g6 c6 hv6 _ _=>?_)
 cases hv6
 refine xN0 rfl (xf 5 zcy rfl (TL.late (TL.st 0 #[_,_,_,_,_,_] _ rfl rfl rfl rfl rfl rfl zg9 rfl rfl trivial (dA (xmp rfl (xmi rfl (xmi rfl (TL.call [0,1] [0,1,11] (zja hl) ⟨rfl,rfl,rfl,trivial⟩ ⟨rfl,rfl,trivial⟩ zsN rfl rfl rfl rfl ?_))))))))
 rintro r9 Bs rfl
 refine ⟨rfl,trivial,?_⟩
 rw [show zbl l (zar (zaG l σ (min o.u o.v)) (zaG l σ (max o.u o.v))) [] 1 (zar (zaG l σ (min o.u o.v)) (zaG l σ (max o.u o.v))).size σ=t from ht.symm]
 rw [show zar (zaG l σ (min o.u o.v)) (zaG l σ (max o.u o.v))=D1 from hD.symm]
 refine TL.rowS 11 rfl (fun a7 b7 o7 c7 hv7 hc7 ha7=>⟨trivial,?_⟩)
 cases hv7
 refine xas rfl (dS (TC.draw (od [1,3,5,7,9,11,13,15,17,19,21,25,22,26,29,31]) [0,7] fc_m (by kernel_rfl) (xmp rfl (xN0 rfl (xf 3 zcd rfl (xlp 0 zdL rfl rfl (xmp rfl (xN0 rfl ?_))))))))
 refine xf 0 zaz rfl (xL3 0 zab rfl rfl (xL2 7 za9 rfl rfl (xms rfl (xmi rfl (xms rfl (TL.openE 1 rfl (fun n0=>⟨(kL2 rfl rfl trivial),?_⟩)))))))
 refine TL.call [1,11] [1,11,12,13] (zpO (p:=⟨1,tg⟩) hl ha7 hDs rfl zcP htz.1 htz.2 hg hP hne) ⟨rfl,rfl,rfl,rfl,rfl,trivial⟩ ⟨rfl,rfl,trivial⟩ zyL rfl rfl rfl rfl ?_
 rintro r9 Bs ⟨xa,xc,ya,yc,rfl,rfl⟩
 refine ⟨rfl,(kL2 rfl rfl trivial),?_⟩
 refine TL.conseq 1 (B:=zam ab mb 139 29 (t)) rfl (fun h hh=>zfk hh) (kL2 rfl rfl trivial) (TL.stW 4 4 [_,_,_,_] rfl rfl rfl rfl rfl rfl zaq rfl rfl (kL2 rfl rfl trivial) (xas rfl (xat rfl (dR (TQ.blockRet (TQ.thenRet (TQ.conseq 11 (B:=rowS _ D1) rfl (fun _ h=>⟨_,_,_,_,rfl,hc7,ha7,h⟩) ?_)))))))
 refine FQ.retG (rs:=[.cell 4 50,.tmp 5,.tmp 6]) [(.agg _),(.slice _ _ _),(.bool true)] (Bs:=[_,_,_,_,_,_]) [0,1,8,12,13,11] rfl ⟨⟨_,_,_,_,_,4,rfl,rfl,.inr ⟨4,[_,_,_,_],zaq,rfl,rfl⟩⟩,rfl,rfl,trivial⟩ rfl rfl ⟨rfl,rfl,rfl,rfl,rfl,rfl,trivial⟩ ?_
 exact ⟨_,_,_,_,_,_,rfl,rfl⟩
theorem zrG {l:Lay} (hl:l.Ok) {pb ab mb:Nat} {tg:Int} {av:Value} {σ:Array UInt64} {d:Array EdR} {o:Op3} {pr:Int->Int} {k:Nat} {g:G} (h:P19 l pr k σ tg g d) (hk:k<=60000):Go.Eng.Fn Tryz.prog 54 [.pointer (some ⟨pb,0,none⟩),.agg #[.int .i64 o.kind,.int .i64 o.u,.int .i64 o.v]] [pt pb (.cells #[.int .i64 l.V,.int .i64 l.S,.int .i64 l.T,.pointer (some ⟨ab,0,none⟩),.int .i64 (tg),av] 57),zam ab mb 139 29 (σ),ownA encE 5 80 av d] (fun x Bs=>∃ (P:PlanS) (xa:Option Addr) (xc:Nat) (ya:Option Addr) (yc:Nat) (va v2:Value) (ok:Bool) (m2:Array UInt64) (d2:Array EdR) (D1:Array Int),x=.tuple #[.agg #[.slice xa (P).work.size xc,.int .i64 (P).point,.bool (P).tree,.slice ya (P).roots.size yc],va,.bool ok]/\Bs=[pt pb (.cells #[.int .i64 l.V,.int .i64 l.S,.int .i64 l.T,.pointer (some ⟨ab,0,none⟩),.int .i64 (tg),v2] 57),zam ab mb 139 29 (m2),ownA encE 5 80 v2 d2,ownA zat 3 34 (.slice xa (P).work.size xc) (P.work),rowS (.slice ya (P).roots.size yc) P.roots,rowS va D1]/\(ok=false/\m2=σ/\d2=d\/ok=true/\∃ (u v s:Int) (g2:G),m2=zaB l σ u v/\D1=za1 l σ u v/\Cl19 l pr k σ tg g d P u v s g2 d2)):=by
 have hb:=zdH hl
 have hT:1<=l.T:=by omega
 have hr:=h.r14 hl
 have hd:d.size<=100:=by have:=hr.size hl; omega
 have hsl:∀ j,j<d.size->0<=d[j]!.slot/\d[j]!.slot<l.S:=fun j hj=>(hr.rng hl hj).1
 have hcb:=zfK hl
 have hz:∀ {u v:Int},0<=u/\u<l.V->0<=v/\v<l.V->0<(zaB l σ u v).size/\(zaB l σ u v).size<=20000:=fun {u v} hu hv=>by
  obtain ⟨_,_,hH⟩:=h.hold hl hT hk hu hv
  have e:((zaB l σ u v).size:Int)=l.cells:=hH.calm.rt.size
  have:=(zaN hl (x:=l.vertex 0 u) (f:=0) (vx0 hl hu).1 (by decide))
  omega
 by_cases hx:o.u=o.v\/o.u<0\/l.V<=o.u\/o.v<0\/l.V<=o.v
 ·exact (zuS hl hd hsl hx).mono fun _ _ ⟨h1,h2⟩=>⟨⟨#[],0,false,#[]⟩,none,0,none,0,_,_,false,σ,d,#[],h1,h2,.inl ⟨rfl,rfl,rfl⟩⟩
 have hu:0<=o.u/\o.u<l.V:=by omega
 have hv:0<=o.v/\o.v<l.V:=by omega
 have hat:=zpH (d:=d) (a:=min o.u o.v) (b:=max o.u o.v) d.size
 by_cases hd2:o.kind=2/\0<=atN d (min o.u o.v) (max o.u o.v) d.size
 ·rcases hat with ⟨ha,_⟩ | ⟨i,hi,ha,h1,h2⟩
  ·rw [ha] at hd2; exact absurd hd2.2 (by decide)
  obtain ⟨⟨b,q,ok⟩,τ,P,g2,e1,e2,e3,hc⟩:=h.call_del hl hT hk hi h1.symm h2.symm
  exact (zuU hl hd hsl hx rfl rfl (hz hc.hu hc.hv) hd2.1 hi ha e1 e2 e3).mono fun x Bs ⟨xa,xc,ya,yc,va,v2,k1,k2⟩=>⟨P,xa,xc,ya,yc,va,v2,true,_,_,_,k1,k2,.inr ⟨rfl,_,_,_,g2,rfl,rfl,hc⟩⟩
 by_cases hi2:o.kind=1/\atN d (min o.u o.v) (max o.u o.v) d.size<0/\∃ s:Nat,s<l.S/\∀ j,j<d.size->d[j]!.slot≠(s:Int)
 ·obtain ⟨hk1,ha0,s0,hs0⟩:=hi2
  rcases hat with ⟨ha,hfr⟩ | ⟨i,hi,ha,_⟩
  ·obtain ⟨s,hs,_,hlt⟩:=least (P:=fun s:Nat=>s<l.S/\∀ j,j<d.size->d[j]!.slot≠(s:Int)) hs0
   obtain ⟨b,τ,P,g2,e1,e2,e3,hc⟩:=h.call_ins hl hT hk (s:=(s:Int)) hu hv (by omega) ⟨by omega,by omega⟩ hs.2 hfr
   have hlt2:∀ q:Nat,q<s->∃ j,j<d.size/\d[j]!.slot=(q:Int):=fun q hq=>by
    refine Classical.byContradiction fun hn=>hlt q hq ⟨by omega,fun j hj e=>hn ⟨j,hj,e⟩⟩
   exact (zuT hl hd hsl hx zvh.symm zpi.symm (hz hu hv) hk1 ha0 (by omega) hs.2 hlt2 e1 e2 e3).mono fun x Bs ⟨xa,xc,ya,yc,va,v2,k1,k2⟩=>⟨P,xa,xc,ya,yc,va,v2,true,_,_,_,k1,k2,.inr ⟨rfl,_,_,_,g2,rfl,rfl,hc⟩⟩
  ·rw [ha] at ha0; omega
 refine (zuR hl hd hsl hx hd2 fun hk1 ha s hs=>?_).mono fun _ _ ⟨h1,h2⟩=>⟨⟨#[],0,false,#[]⟩,none,0,none,0,_,_,false,σ,d,#[],h1,h2,.inl ⟨rfl,rfl,rfl⟩⟩
 refine Classical.byContradiction fun hn=>hi2 ⟨hk1,ha,s,hs,fun j hj e=>hn ⟨j,hj,e⟩⟩
set_option maxHeartbeats 4000000 in
theorem zpR {l:Lay} (hl:l.Ok) {pb ab mb:Nat} {tg0:Int} {av:Value} {σ:Array UInt64} {pr:Int->Int} {κ:Type} {C0 C1 C2 C3 C4 C5:κ->Assn} {J:Nat->Array UInt64->Int->Array EdR->κ->Prop} {K:Nat->Array UInt64->Int->Array EdR->PlanS->Int->Int->Array EdR->Nat->κ->Prop} {fe fl:FuncId} {ce cl:List Value} (hfe:zah Tryz.prog fe=true) (hfl:zah Tryz.prog fl=true) (hS:∀ {k:Nat} {m:Array UInt64} {tg:Int} {g:G} {d:Array EdR} {P:PlanS} {u v s:Int} {g2:G} {d2:Array EdR} {x:κ},k<=24->P19 l pr k m tg g d->Cl19 l pr k m tg g d P u v s g2 d2->J k m tg d x->K k m tg d P u v d2 0 x) (hE:∀ {k:Nat} {m:Array UInt64} {tg:Int} {g:G} {d:Array EdR} {P:PlanS} {u v s:Int} {g2:G} {d2:Array EdR} {x:κ} {n:Nat} {xa:Option Addr} {xc:Nat} {ya:Option Addr} {yc:Nat} {va v2:Value},k<=24->P19 l pr k m tg g d->Cl19 l pr k m tg g d P u v s g2 d2->n<=P.work.size->K k m tg d P u v d2 n x->Go.Eng.Fn Tryz.prog fe ([.agg #[.slice xa (P).work.size xc,.int .i64 P.point,.bool P.tree,.slice ya (P).roots.size yc],va,.int .i64 (n:Int)]++ce) [pt pb (.cells #[.int .i64 l.V,.int .i64 l.S,.int .i64 l.T,.pointer (some ⟨ab,0,none⟩),.int .i64 (tg),v2] 57),zam ab mb 139 29 (runA (zaB l m u v) P.work (n)),ownA encE 5 80 v2 d2,ownA zat 3 34 (.slice xa (P).work.size xc) (P.work),rowS (.slice ya (P).roots.size yc) P.roots,rowS va (za1 l m u v),(C0 (x)),(C1 (x)),(C2 (x)),(C3 (x)),(C4 (x)),(C5 (x))] (fun r Bs=>r=.bool true/\∃ y,Bs=[pt pb (.cells #[.int .i64 l.V,.int .i64 l.S,.int .i64 l.T,.pointer (some ⟨ab,0,none⟩),.int .i64 (tg),v2] 57),zam ab mb 139 29 (runA (zaB l m u v) P.work (n)),ownA encE 5 80 v2 d2,ownA zat 3 34 (.slice xa (P).work.size xc) (P.work),rowS (.slice ya (P).roots.size yc) P.roots,rowS va (za1 l m u v),(C0 (y)),(C1 (y)),(C2 (y)),(C3 (y)),(C4 (y)),(C5 (y))]/\K k m tg d P u v d2 (n+1) y)) (hL:∀ {k:Nat} {m:Array UInt64} {tg:Int} {g:G} {d:Array EdR} {P:PlanS} {u v s:Int} {g2:G} {d2:Array EdR} {x:κ} {xa:Option Addr} {xc:Nat} {ya:Option Addr} {yc:Nat} {va v2:Value},k<=24->P19 l pr k m tg g d->Cl19 l pr k m tg g d P u v s g2 d2->K k m tg d P u v d2 (P.work.size+1) x->Go.Eng.Fn Tryz.prog fl ([.agg #[.slice xa (P).work.size xc,.int .i64 P.point,.bool P.tree,.slice ya (P).roots.size yc],va]++cl) [pt pb (.cells #[.int .i64 l.V,.int .i64 l.S,.int .i64 l.T,.pointer (some ⟨ab,0,none⟩),.int .i64 (tg),v2] 57),zam ab mb 139 29 (runM (zaB l m u v) P.work.toList),ownA encE 5 80 v2 d2,ownA zat 3 34 (.slice xa (P).work.size xc) (P.work),rowS (.slice ya (P).roots.size yc) P.roots,rowS va (za1 l m u v),(C0 (x)),(C1 (x)),(C2 (x)),(C3 (x)),(C4 (x)),(C5 (x))] (fun r Bs=>r=.bool true/\∃ y,Bs=[pt pb (.cells #[.int .i64 l.V,.int .i64 l.S,.int .i64 l.T,.pointer (some ⟨ab,0,none⟩),.int .i64 (tg),v2] 57),zam ab mb 139 29 (runM (zaB l m u v) P.work.toList),ownA encE 5 80 v2 d2,ownA zat 3 34 (.slice xa (P).work.size xc) (P.work),rowS (.slice ya (P).roots.size yc) P.roots,rowS va (za1 l m u v),(C0 (y)),(C1 (y)),(C2 (y)),(C3 (y)),(C4 (y)),(C5 (y))]/\J (k+1) (endM l (zaB l m u v) P) (if P.tree then tg+1 else tg) d2 y)) {oa:Option Addr} {on oc bo offo:Nat} {Ao:Assn} {fo:Nat->Op3} (hoa:0<on->oa=some ⟨bo,offo,none⟩) (hAo:zbh Ao ztz 3 bo offo on fo) (hon:on<=24) {da:Option Addr} {dn dc:Nat} {g0:G} {d0:Array EdR} {x0:κ} (h0:P19 l pr 0 σ tg0 g0 d0) (hJ0:J 0 σ tg0 d0 x0)  : Go.Eng.Fn Tryz.prog 37 [.pointer (some ⟨pb,0,none⟩),.agg #[.int .i64 l.V,.int .i64 l.S,.int .i64 l.T,.slice da dn dc,.slice oa on oc],.func (.func fe) #[] ce.toArray,.func (.func fl) #[] cl.toArray] [pt pb (.cells #[.int .i64 l.V,.int .i64 l.S,.int .i64 l.T,.pointer (some ⟨ab,0,none⟩),.int .i64 (tg0),av] 57),zam ab mb 139 29 (σ),ownA encE 5 80 av d0,Ao,(C0 (x0)),(C1 (x0)),(C2 (x0)),(C3 (x0)),(C4 (x0)),(C5 (x0))] (fun r Bs=>r=.bool true/\∃ t9 v9 m9 d9 y9,Bs=[pt pb (.cells #[.int .i64 l.V,.int .i64 l.S,.int .i64 l.T,.pointer (some ⟨ab,0,none⟩),.int .i64 (t9),v9] 57),zam ab mb 139 29 (m9),ownA encE 5 80 v9 d9,Ao,(C0 (y9)),(C1 (y9)),(C2 (y9)),(C3 (y9)),(C4 (y9)),(C5 (y9))]):=by
 have hb:=zdH hl
 have hT:1<=l.T:=by omega
 refine Fn.enter (Tryz.func37) rfl rfl (fun w0 R=>?_)
 refine sA (xB 10 rfl (fun bk10=>(xaf rfl (dB (xf 4 zkq rfl (xls 10 zwn rfl rfl (xz zgu rfl (xmi rfl (dK ?_)))))))))
 refine TC.loopK (X:=Nat×Nat×Array UInt64×Int×G×Array EdR×κ×Value) [0,2,3,18,19] [3,10] (fun ⟨i,k,m,tg,g,d,y,v⟩=>[(20,.int .i64 ((i:Nat):Int))]) (fun ⟨i,k,m,tg,g,d,y,v⟩=>[(0,pt pb (.cells #[.int .i64 l.V,.int .i64 l.S,.int .i64 l.T,.pointer (some ⟨ab,0,none⟩),.int .i64 (tg),v] 57)),(1,zam ab mb 139 29 (m)),(2,ownA encE 5 80 v d),(4,C0 y),(5,C1 y),(6,C2 y),(7,C3 y),(8,C4 y),(9,C5 y)]) (fun ⟨i,k,m,tg,g,d,y,v⟩=>(i<=on/\k<=i)/\P19 l pr k m tg g d/\J k m tg d y) (fun ⟨i,k,m,tg,g,d,y,v⟩=>on - i) ((0,0,σ,tg0,g0,d0,x0,av)) ⟨⟨Nat.zero_le _,Nat.zero_le _⟩,h0,hJ0⟩ ⟨rfl,trivial⟩ ⟨rfl,rfl,rfl,rfl,rfl,rfl,rfl,rfl,rfl,trivial⟩ (fun z hI=>?_)
 obtain ⟨i,k,m,tg,g,d,y,v⟩:=z
 obtain ⟨⟨hi,hki⟩,hP,hJ⟩:=hI
 replace hi:i<=on:=hi
 replace hki:k<=i:=hki
 replace hP:P19 l pr k m tg g d:=hP
 replace hJ:J k m tg d y:=hJ
 refine TC.sub (env':=[(20,_),(0,_),(2,_),(3,_),(18,_),(19,_)]) (L':=[(0,_),(1,_),(2,_),(4,_),(5,_),(6,_),(7,_),(8,_),(9,_),(3,_),(10,_)]) ⟨rfl,rfl,rfl,rfl,rfl,rfl,trivial⟩ ⟨rfl,rfl,rfl,rfl,rfl,rfl,rfl,rfl,rfl,rfl,rfl,trivial⟩ (sA (TL.lss rfl rfl rfl rfl (fun q1=>?_) (fun q1=>?_)))
 refine dS (TC.condT rfl (TC.skip (TQ.then (TC.seq (TC.block (sA (TL.iaO rfl hoa rfl zgu (by omega) rfl rfl (TL.ldRx 3 [_,_,_] rfl rfl hAo (by omega) rfl zlH rfl rfl ?_))))))))
 refine TL.alloc 11 (cs:=#[.int .i64 0,.int .i64 0,.int .i64 0]) zzF rfl rfl rfl (fun _=>trivial) (fun bk11=>(TL.stW 11 3 [_,_,_] rfl rfl rfl rfl rfl rfl zlH rfl rfl trivial (dA (xmp rfl (xL3 11 zlH rfl rfl (TL.call [0,1,2] [0,1,2,12,13,14] (zrG hl hP (by omega)) ⟨rfl,rfl,trivial⟩ ⟨rfl,rfl,rfl,trivial⟩ zzZ rfl rfl rfl rfl ?_))))))
 rintro x Bs ⟨P,xa,xc,ya,yc,va,v2,ok,m2,d2,D1,rfl,rfl,hP2⟩
 refine ⟨rfl,trivial,?_⟩
 refine xmu rfl (TL.ext (.agg _) rfl rfl rfl rfl (xev rfl rfl (TL.ext (.bool _) rfl rfl rfl rfl (TL.alloc 15 (cs:=#[.slice none 0 0,.int .i64 0,.bool false,.slice none 0 0]) zbY rfl rfl rfl (fun _=>trivial) (fun bk15=>(TL.stW 15 4 [_,_,_,_] rfl rfl rfl rfl rfl rfl zaq rfl rfl trivial (xav rfl (xab rfl (dB ?_)))))))))
 refine xmb rfl (TL.cases rfl (fun q2=>?_) (fun q2=>?_))
 refine xnt rfl (TL.done (TQ.then (TC.condF rfl (TC.skip (TQ.then (TC.seq ?_))))))
 obtain rfl:ok=true:=by assumption
 rcases hP2 with ⟨h9,_⟩ | ⟨_,u,v,s,g2,rfl,rfl,hC⟩
 ·cases h9
 obtain ⟨hgood,hne,hnx⟩:=hC.next hl hP hT (by omega)
 have hwsz:=hC.wsz
 refine TC.ownW 12 rfl (fun a8 g8 c8 hv8 hc8 ha8=>?_)
 cases hv8
 refine TC.region (xf 0 za8 rfl (xls 15 zcc rfl rfl (TL.call [12] [12,16,17] (zi4 ha8 hC.wsz (zaL ha8)) ⟨rfl,trivial⟩ ⟨rfl,trivial⟩ ztg rfl rfl rfl rfl ?_)))
 rintro x Bs ⟨rb,v,rfl,rfl⟩
 refine ⟨rfl,trivial,?_⟩
 rw [zif]
 refine TL.ownW 17 rfl (fun a6 g6 c6 hv6 hc6 ha6=>?_)
 cases hv6
 refine xap rfl (dB (xmp rfl (TL.nilP false rfl rfl zsL rfl rfl rfl (xmf rfl (xf 0 za8 rfl (xls 15 zcc rfl rfl (xz zal rfl (TL.eqlF rfl rfl (by omega) rfl rfl ?_))))))))
 refine xpF rfl (xmf rfl (xmv rfl (xL4 15 zaq rfl rfl (xmv rfl (TL.callCF (c1:=[]) (c2:=ce) (vs:=[_,_,_]) [0,1,2,12,13,14,4,5,6,7,8,9] [0,1,2,12,13,14,4,5,6,7,8,9] rfl (hE (n:=0) (by omega) hP hC (Nat.zero_le _) (hS (by omega) hP hC hJ)) ⟨rfl,rfl,rfl,trivial⟩ ⟨rfl,rfl,rfl,rfl,rfl,rfl,rfl,rfl,rfl,rfl,rfl,rfl,trivial⟩ hfe rfl rfl rfl rfl ?_)))))
 rintro r9 Bs ⟨rfl,y9,rfl,hK⟩
 refine ⟨rfl,trivial,?_⟩
 refine xnt rfl (xpF rfl (TL.done (TQ.then (TC.condF rfl (TC.skip (TQ.then (sB (xai rfl ?_))))))))
 refine dK (TC.loopK (X:=Nat×κ) [0,2,3,11,12,14,18,19,20] [0,2,3,10,11,12,13,14,15,17] (fun ⟨k9,y⟩=>[(15,.int .i64 ((k9+1:Nat):Int))]) (fun ⟨k9,y⟩=>[(16,pt rb (.cells #[.slice a6 P.work.size c6,.int .i64 (((k9:Nat):Int)),.bool (badA (zaB l m u v) P.work k9)] 145)),(1,zam ab mb 139 29 (runA (zaB l m u v) P.work (k9))),(4,C0 y),(5,C1 y),(6,C2 y),(7,C3 y),(8,C4 y),(9,C5 y)]) (fun ⟨k9,y⟩=>k9<P.work.size/\K k m tg d P u v d2 (k9+1) y) (fun ⟨k9,y⟩=>P.work.size - k9) ((0,y9)) ⟨by show 0<P.work.size; omega,hK⟩ ⟨rfl,trivial⟩ ⟨rfl,rfl,rfl,rfl,rfl,rfl,rfl,rfl,trivial⟩ (fun z hI=>?_))
 obtain ⟨k9,y8⟩:=z
 obtain ⟨hk9,hK⟩:=hI
 replace hk9:k9<P.work.size:=hk9
 replace hK:K k m tg d P u v d2 (k9+1) y8:=hK
 refine TC.sub (env':=[(15,_),(0,_),(2,_),(3,_),(11,_),(12,_),(14,_),(18,_),(19,_),(20,_)]) (L':=[(16,_),(1,_),(4,_),(5,_),(6,_),(7,_),(8,_),(9,_),(0,_),(2,_),(3,_),(10,_),(11,_),(12,_),(13,_),(14,_),(15,_),(17,_)]) ⟨rfl,rfl,rfl,rfl,rfl,rfl,rfl,rfl,rfl,rfl,trivial⟩ ⟨rfl,rfl,rfl,rfl,rfl,rfl,rfl,rfl,rfl,rfl,rfl,rfl,rfl,rfl,rfl,rfl,rfl,rfl,trivial⟩ (TC.seq (TC.block (sA (xmp rfl (xmp rfl (xN0 rfl (xf 3 zcd rfl (xlp 0 zdL rfl rfl ?_))))))))
 refine xD [16,17,1] (znn hC.wsz hc6 ha6 hk9 hC.vals) zs9 rfl ?_
 rw [show (badA (zaB l m u v) P.work k9 || !accG P.work[k9]! (runA (zaB l m u v) P.work k9))=badA (zaB l m u v) P.work (k9+1) from rfl,show acc1 P.work[k9]! (runA (zaB l m u v) P.work k9)=runA (zaB l m u v) P.work (k9+1) from rfl]
 refine xab rfl (dB (xmi rfl (xf 0 za8 rfl (xls 15 zcc rfl rfl (xz zal rfl (TL.gtrF rfl rfl (by omega) rfl rfl (xmf rfl (xmp rfl ?_))))))))
 refine xD [16] ziY zs2 rfl (xmi rfl (TL.neqF rfl rfl (fun h=>h rfl) rfl rfl (xpF rfl (xmf rfl (xmp rfl (xD [16] zkV zs0 rfl ?_))))))
 rw [show (!badA (zaB l m u v) P.work (k9+1))=true by rw [zoj hgood (show k9+1<=P.work.size by omega)]; rfl]
 refine xnt rfl (xpF rfl (xmf rfl (xmb rfl (xmi rfl (xf 0 za8 rfl (xls 15 zcc rfl rfl (xz zal rfl (TL.eqlV rfl rfl rfl rfl ?_))))))))
 refine TL.neqB rfl rfl zz6 rfl rfl ?_
 rw [(show (!(decide (k9+1=P.work.size) == decide (((k9+1:Nat):Int)=(P.work.size:Int))))=false by rw [show decide (((k9+1:Nat):Int)=(P.work.size:Int))=decide (k9+1=P.work.size) from decide_eq_decide.2 (by omega)]; simp)]
 refine xpF rfl (xmf rfl (xmv rfl (xL4 15 zaq rfl rfl (xmv rfl (xmi rfl (TL.callCF (c1:=[]) (c2:=ce) (vs:=[_,_,_]) [0,1,2,12,13,14,4,5,6,7,8,9] [0,1,2,12,13,14,4,5,6,7,8,9] rfl (hE (n:=k9+1) (by omega) hP hC (by omega) hK) ⟨rfl,rfl,rfl,trivial⟩ ⟨rfl,rfl,rfl,rfl,rfl,rfl,rfl,rfl,rfl,rfl,rfl,rfl,trivial⟩ hfe rfl rfl rfl rfl ?_))))))
 rintro r9 Bs ⟨rfl,y9,rfl,hK⟩
 refine ⟨rfl,trivial,?_⟩
 refine xnt rfl (xpF rfl (dF rfl (xmb rfl (TL.cases rfl (fun q3=>?_) (fun q3=>?_)))))
 refine TL.done (TQ.then (TC.condT rfl (TC.exit (TQ.blockOut rfl (TQ.thenExit (TQ.thenExit (TQ.blockHere (TQ.then ?_))))))))
 refine TC.seq (TC.seq ?_)
 have hk2:k9+1=P.work.size:=of_decide_eq_true (by assumption)
 rw [hk2] at hK
 rw [hk2,zkT]
 refine TC.region (xmv rfl (xL4 15 zaq rfl rfl (xmv rfl (TL.callCF (c1:=[]) (c2:=cl) (vs:=[_,_]) [0,1,2,12,13,14,4,5,6,7,8,9] [0,1,2,12,13,14,4,5,6,7,8,9] rfl (hL (by omega) hP hC hK) ⟨rfl,rfl,trivial⟩ ⟨rfl,rfl,rfl,rfl,rfl,rfl,rfl,rfl,rfl,rfl,rfl,rfl,trivial⟩ hfl rfl rfl rfl rfl ?_))))
 rintro r9 Bs ⟨rfl,y9,rfl,hJ9⟩
 refine ⟨rfl,trivial,?_⟩
 refine xnt rfl (TL.done (TQ.then (TC.condF rfl (TC.skip (TQ.then (TC.rowS 13 rfl (fun a7 b7 o7 c7 hv7 hc7 ha7=>?_)))))))
 cases hv7
 refine TC.region (xmp rfl (xL4 15 zaq rfl rfl (xD [0,1,13] (zvq hl ha7 zcP (by have:=(hC.roots hl hP hT (by omega)).2; omega) (by have:=hP.tg; omega)) zzY rfl (dI (TL.add (((i+1:Nat):Int)) rfl rfl (wrN (by omega)) rfl rfl (xmi rfl (TL.done (TQ.roundK ((i+1,k+1,_,_,g2,d2,y9,_)) ⟨⟨⟨(show i+1<=on by omega),(show k+1<=i+1 by omega)⟩,hnx,hJ9⟩,(show on - (i+1)<on - i by omega)⟩ ⟨rfl,trivial⟩ ⟨rfl,rfl,rfl,rfl,rfl,rfl,rfl,rfl,rfl,trivial⟩ (kE5 rfl rfl rfl rfl rfl trivial) (kL2 rfl rfl trivial)))))))))
 refine TL.done (TQ.then (TC.condF rfl (TC.skip (TQ.inBlock (TQ.then (TC.region (xmi rfl (TL.add (((k9+2:Nat):Int)) rfl rfl (wrN (by omega)) rfl rfl ?_))))))))
 refine xai rfl (TL.done (TQ.roundK ((k9+1,y9)) ⟨⟨(show k9+1<P.work.size by have:¬k9+1=P.work.size:=of_decide_eq_false (by assumption); omega),hK⟩,(show P.work.size - (k9+1)<P.work.size - k9 by omega)⟩ ⟨rfl,trivial⟩ ⟨rfl,rfl,rfl,rfl,rfl,rfl,rfl,rfl,trivial⟩ (kE8 rfl rfl rfl rfl rfl rfl rfl rfl (kE1 rfl trivial)) (kL8 rfl rfl rfl rfl rfl rfl rfl rfl (kL2 rfl rfl trivial))))
 refine xnf rfl (TL.done (TQ.then (TC.condT rfl (TC.exit (TQ.thenExit (TQ.blockHere (TQ.then (TC.region ?_))))))))
 refine TL.add (((i+1:Nat):Int)) rfl rfl (wrN (by omega)) rfl rfl (xmi rfl (TL.done (TQ.roundK ((i+1,k,m2,tg,g,d2,y,_)) (by obtain ⟨e1,e2⟩:m2=m/\d2=d:=(by rcases hP2 with ⟨_,e1,e2⟩ | ⟨h9,_⟩; (· exact ⟨e1,e2⟩); (· exact absurd (h9.symm.trans (by assumption:ok=false)) (by decide))); subst e1 e2; exact ⟨⟨⟨(show i+1<=on by omega),(show k<=i+1 by omega)⟩,hP,hJ⟩,(show on - (i+1)<on - i by omega)⟩) ⟨rfl,trivial⟩ ⟨rfl,rfl,rfl,rfl,rfl,rfl,rfl,rfl,rfl,trivial⟩ (kE5 rfl rfl rfl rfl rfl trivial) (kL2 rfl rfl trivial))))
 refine dS (TC.condF rfl (TC.exit (TQ.thenExit (TQ.thenExit (TQ.blockHere (TQ.then (sA (xat rfl ?_))))))))
 refine dR ?_
 refine FQ.ret1 (v:=(.bool true)) (Bs:=[_,_,_,_,_,_,_,_,_,_]) [0,1,2,3,4,5,6,7,8,9] rfl rfl rfl ⟨rfl,rfl,rfl,rfl,rfl,rfl,rfl,rfl,rfl,rfl,trivial⟩ ?_
 exact ⟨rfl,_,_,_,_,_,rfl⟩
theorem zuE {V S T:Int}  : FnD Tryz.prog 52 [.agg #[.int .i64 V,.int .i64 S,.int .i64 T]] [] (.agg #[.int .i64 V,.int .i64 S,.int .i64 T]) []:=by
 refine Fn.enter (Tryz.func52) rfl rfl (fun w0 R=>?_)
 refine sA (xB 0 rfl (fun bk0=>(TL.alloc 1 (cs:=#[.int .i64 0,.int .i64 0,.int .i64 0]) zwm rfl rfl rfl (fun _=>trivial) (fun bk1=>(dA (xf 0 zaA rfl (xli 0 zad rfl rfl (xf 1 zbB rfl (xli 0 zad rfl rfl (xf 2 zeP rfl ?_))))))))))
 refine xli 0 zad rfl rfl (TL.bld [.int .i64 0,.int .i64 0,.int .i64 0] [(.int _ _),(.int _ _),(.int _ _)] [_,_,_] zwm zzO ⟨rfl,rfl,rfl,trivial⟩ ⟨rfl,rfl⟩ rfl rfl (TL.stW 1 3 [_,_,_] rfl rfl rfl rfl rfl rfl zpr rfl rfl trivial (dR ?_)))
 refine FQ.retG (rs:=[.cell 2 70]) [(.agg _)] (Bs:=[]) [] rfl ⟨⟨_,_,_,_,_,1,rfl,rfl,.inr ⟨3,[_,_,_],zpr,rfl,rfl⟩⟩,trivial⟩ rfl rfl trivial ?_
 exact ⟨rfl,rfl⟩
theorem zj7 {V S T:Int}  {da oa:Option Addr} {dn dc on oc:Nat}  : FnD Tryz.prog 24 [.agg #[.int .i64 V,.int .i64 S,.int .i64 T,.slice da dn dc,.slice oa on oc]] [] (.bool (decide (okL V S T/\V<=6/\S<=8/\dn<=60/\on<=24))) []:=by
 refine Fn.enter (Tryz.func24) rfl rfl (fun w0 R=>?_)
 refine sA (xB 0 rfl (fun bk0=>(xaf rfl (dA (xf 0 zeO rfl (xL3 0 zab rfl rfl (xD [] zuE zz0 rfl (xD [] znt zzV rfl (TL.casesP rfl (fun q1=>?_) (fun q1=>?_))))))))))
 refine xmt rfl (xf 0 zeO rfl (xf 0 zaA rfl (xli 0 zad rfl rfl (TL.leq rfl rfl rfl rfl (fun q2=>?_) (fun q2=>?_)))))
 refine xpT rfl (xmt rfl (xf 0 zeO rfl (xf 1 zbB rfl (xli 0 zad rfl rfl (TL.leq rfl rfl rfl rfl (fun q3=>?_) (fun q3=>?_))))))
 refine xpT rfl (xmt rfl (xf 3 zkr rfl (xls 0 zh1 rfl rfl (xz za4 rfl (TL.leq rfl rfl rfl rfl (fun q4=>?_) (fun q4=>?_))))))
 refine xpT rfl (xmt rfl (xf 4 zkq rfl (xls 0 zwn rfl rfl (xz zgu rfl (TL.leqV rfl rfl rfl rfl (TL.pickT (.bool _) rfl rfl rfl rfl (xab rfl (dR ?_))))))))
 refine FQ.ret1 (v:=(.bool _)) (Bs:=[]) [] rfl rfl rfl trivial ?_
 exact ⟨congrArg Value.bool (by first | (simp [*]; done) | (simp [*]; omega) | (rw [eq_comm,decide_eq_false_iff_not]; intro hc; obtain ⟨c1,c2,c3,c4,c5⟩:=hc; first | omega | (simp_all; done)) | (rw [eq_comm,decide_eq_true_iff]; refine ⟨by simp_all,?_⟩; omega) | (rw [decide_eq_decide]; constructor<;>intro hc<;>first | omega | exact ⟨by simp_all,by omega⟩)),rfl⟩
 refine xpG rfl (xmf rfl (xo rfl (xo rfl (xo rfl (xo rfl (xpF rfl (xaf rfl (dR ?_))))))))
 refine FQ.ret1 (v:=(.bool false)) (Bs:=[]) [] rfl rfl rfl trivial ?_
 exact ⟨congrArg Value.bool (by first | (simp [*]; done) | (simp [*]; omega) | (rw [eq_comm,decide_eq_false_iff_not]; intro hc; obtain ⟨c1,c2,c3,c4,c5⟩:=hc; first | omega | (simp_all; done)) | (rw [eq_comm,decide_eq_true_iff]; refine ⟨by simp_all,?_⟩; omega) | (rw [decide_eq_decide]; constructor<;>intro hc<;>first | omega | exact ⟨by simp_all,by omega⟩)),rfl⟩
 refine xpG rfl (xmf rfl (xo rfl (xo rfl (xo rfl (xo rfl (xpF rfl (xmf rfl (xo rfl ?_))))))))
 refine xo rfl (xo rfl (xo rfl (xpF rfl (xaf rfl (dR ?_)))))
 refine FQ.ret1 (v:=(.bool false)) (Bs:=[]) [] rfl rfl rfl trivial ?_
 exact ⟨congrArg Value.bool (by first | (simp [*]; done) | (simp [*]; omega) | (rw [eq_comm,decide_eq_false_iff_not]; intro hc; obtain ⟨c1,c2,c3,c4,c5⟩:=hc; first | omega | (simp_all; done)) | (rw [eq_comm,decide_eq_true_iff]; refine ⟨by simp_all,?_⟩; omega) | (rw [decide_eq_decide]; constructor<;>intro hc<;>first | omega | exact ⟨by simp_all,by omega⟩)),rfl⟩
 refine xpG rfl (xmf rfl (xo rfl (xo rfl (xo rfl (xo rfl (xpF rfl (xmf rfl (xo rfl ?_))))))))
 refine xo rfl (xo rfl (xo rfl (xpF rfl (xmf rfl (xo rfl (xo rfl (xo rfl (xo rfl ?_))))))))
 refine xpF rfl (xaf rfl (dR ?_))
 refine FQ.ret1 (v:=(.bool false)) (Bs:=[]) [] rfl rfl rfl trivial ?_
 exact ⟨congrArg Value.bool (by first | (simp [*]; done) | (simp [*]; omega) | (rw [eq_comm,decide_eq_false_iff_not]; intro hc; obtain ⟨c1,c2,c3,c4,c5⟩:=hc; first | omega | (simp_all; done)) | (rw [eq_comm,decide_eq_true_iff]; refine ⟨by simp_all,?_⟩; omega) | (rw [decide_eq_decide]; constructor<;>intro hc<;>first | omega | exact ⟨by simp_all,by omega⟩)),rfl⟩
 refine xmf rfl (xo rfl (xo rfl (xo rfl (xo rfl (xpF rfl (xmf rfl (xo rfl (xo rfl ?_))))))))
 refine xo rfl (xo rfl (xpF rfl (xmf rfl (xo rfl (xo rfl (xo rfl (xo rfl (xpF rfl ?_))))))))
 refine xmf rfl (xo rfl (xo rfl (xo rfl (xo rfl (xpF rfl (xaf rfl (dR ?_)))))))
 refine FQ.ret1 (v:=(.bool false)) (Bs:=[]) [] rfl rfl rfl trivial ?_
 exact ⟨congrArg Value.bool (by first | (simp [*]; done) | (simp [*]; omega) | (rw [eq_comm,decide_eq_false_iff_not]; intro hc; obtain ⟨c1,c2,c3,c4,c5⟩:=hc; first | omega | (simp_all; done)) | (rw [eq_comm,decide_eq_true_iff]; refine ⟨by simp_all,?_⟩; omega) | (rw [decide_eq_decide]; constructor<;>intro hc<;>first | omega | exact ⟨by simp_all,by omega⟩)),rfl⟩
set_option maxHeartbeats 2000000 in
theorem zsa {l:Lay} (hl:l.Ok) {pb ab mb:Nat} {pr:Int->Int} {k:Nat} {m:Array UInt64} {tg:Int} {g:G} {d:Array EdR} {P:PlanS} {u v s:Int} {g2:G} {d2:Array EdR} (hk:k<=24) (hP:P19 l pr k m tg g d) (hC:Cl19 l pr k m tg g d P u v s g2 d2) {xa:Option Addr} {xc:Nat} {ya:Option Addr} {yc:Nat} {va v2:Value} {n:Nat} (hn:n<=P.work.size) {bp bm:Nat} {mv:Value} {dm:Array Bool} (hK:zm4 l (zaB l m u v) (za1 l m u v) n dm):Go.Eng.Fn Tryz.prog 44 [.agg #[.slice xa (P).work.size xc,.int .i64 P.point,.bool P.tree,.slice ya (P).roots.size yc],va,.int .i64 ((n:Nat):Int),.pointer (some ⟨bm,0,none⟩),.pointer (some ⟨bp,0,none⟩)] [pt pb (.cells #[.int .i64 l.V,.int .i64 l.S,.int .i64 l.T,.pointer (some ⟨ab,0,none⟩),.int .i64 (tg),v2] 57),zam ab mb 139 29 (runA (zaB l m u v) P.work (n)),ownA encE 5 80 v2 d2,ownA zat 3 34 (.slice xa (P).work.size xc) (P.work),rowS (.slice ya (P).roots.size yc) P.roots,rowS va (za1 l m u v),pt bp (.cells #[.pointer (some ⟨pb,0,none⟩)] 46),pt bm (.cells #[mv] 81),ownA encB 1 4 mv dm,emp,emp,emp] (fun r Bs=>r=.bool true/\∃ mv2 dm2,Bs=[pt pb (.cells #[.int .i64 l.V,.int .i64 l.S,.int .i64 l.T,.pointer (some ⟨ab,0,none⟩),.int .i64 (tg),v2] 57),zam ab mb 139 29 (runA (zaB l m u v) P.work (n)),ownA encE 5 80 v2 d2,ownA zat 3 34 (.slice xa (P).work.size xc) (P.work),rowS (.slice ya (P).roots.size yc) P.roots,rowS va (za1 l m u v),pt bp (.cells #[.pointer (some ⟨pb,0,none⟩)] 46),pt bm (.cells #[mv2] 81),ownA encB 1 4 mv2 dm2,emp,emp,emp]/\zm4 l (zaB l m u v) (za1 l m u v) (n+1) dm2):=by
 have hb:=zdH hl
 have hT:1<=l.T:=by omega
 have hnb:=zaF hl
 have hlk:∀ w:Nat,w<l.V->MemLike.get (runA (zaB l m u v) P.work (n)) (l.field (zaG l (runA (zaB l m u v) P.work (n)) (w:Int)) 0)=if zaG l (zaB l m u v) (w:Int)∈(za1 l m u v).toList then 1 else 0:=fun w hw=>by have:=hC.locks hl hP hT (by omega) n (w:=(w:Int)) (by omega); rw [<-zeC hn] at this; exact this
 have hh0:0<(za1 l m u v).size:=zun
 have hh2:(za1 l m u v).size<=2:=zds
 refine Fn.enter (Tryz.func44) rfl rfl (fun w0 R=>?_)
 refine TC.seq (TC.rowS 5 rfl (fun a7 b7 o7 e7 hv7 hc7 ha7=>?_))
 subst hv7
 refine TC.region (xB 12 rfl (fun bk12=>(xaf rfl (dB (xmi rfl (TL.eql rfl rfl rfl rfl (fun q1=>?_) (fun q1=>?_)))))))
 refine dT rfl (TL.st 7 #[_] (.slice none 0 0) rfl rfl rfl rfl rfl rfl zgg rfl rfl trivial (dS ?_))
 obtain rfl:n=0:=by omega
 refine TC.nilA 13 (A:=ownA encB 1 4 (.slice none 0 0) #[]) (.inl ⟨rfl,rfl⟩) (TC.region (xlp 6 zdc rfl rfl (xN0 rfl (xf 0 zaz rfl (xf 0 zaA rfl (xli 0 zad rfl rfl (xmi rfl (dK ?_))))))))
 refine TC.loopK (X:=Nat×Value) [1,3,4,8,19] [0,1,2,3,4,5,6,9,10,11,12] (fun ⟨w,v8⟩=>[(20,.int .i64 ((w:Nat):Int))]) (fun ⟨w,v8⟩=>[(7,pt bm (.cells #[v8] 81)),(13,ownA encB 1 4 v8 (zeF l (zaB l m u v) (za1 l m u v) (w)))]) (fun ⟨w,v8⟩=>w<=l.V) (fun ⟨w,v8⟩=>l.V - w) ((0,_)) (Nat.zero_le _) ⟨rfl,trivial⟩ ⟨rfl,rfl,trivial⟩ (fun z hI=>?_)
 obtain ⟨w,v8⟩:=z
 replace hI:w<=l.V:=hI
 refine TC.sub (env':=[(20,_),(1,_),(3,_),(4,_),(8,_),(19,_)]) (L':=[(7,_),(13,_),(0,_),(1,_),(2,_),(3,_),(4,_),(5,_),(6,_),(9,_),(10,_),(11,_),(12,_)]) ⟨rfl,rfl,rfl,rfl,rfl,rfl,trivial⟩ ⟨rfl,rfl,rfl,rfl,rfl,rfl,rfl,rfl,rfl,rfl,rfl,rfl,rfl,trivial⟩ (sA (TL.lss rfl rfl rfl rfl (fun q2=>?_) (fun q2=>?_)))
 refine dS (TC.condT rfl (TC.skip (TQ.then (TC.seq (TC.block (sA (xmi rfl (xai rfl ?_))))))))
 refine dA (xlp 6 zdc rfl rfl (xmi rfl (xD [0,1] (zb9 hl) zfp rfl (xai rfl (TL.done (TQ.then (TC.draw2 [(0,true),(1,true),(2,true),(3,true),(4,true),(5,true),(6,true),(7,true),(8,true),(9,true),(10,true),(11,true),(12,true),(13,true),(14,true),(15,true),(16,false),(17,false)] 18 [] [5,7] fc_m (by kernel_rfl) (xlv 7 zgg rfl rfl ?_))))))))
 refine xmi rfl (xms rfl (TL.iaO (i:=0) rfl ha7 rfl zak (by omega) rfl rfl (TL.ldRS 5 (.int _ _) rfl rfl zcP (by omega) (rfl) zad rfl rfl (TL.eql rfl rfl rfl rfl (fun q3=>?_) (fun q3=>?_)))))
 refine xmt rfl (xo rfl (xo rfl (xo rfl (xo rfl (xo rfl (xo rfl (xo rfl (xo rfl ?_))))))))
 refine xpT rfl (TL.bsN 14 [_] (encB true) za7 zqw ⟨rfl,trivial⟩ rfl (lit1 rfl) rfl rfl (fun bk14=>⟨(kL2 rfl rfl trivial),?_⟩))
 refine TL.appS 13 14 (d2:=#[true]) rfl (rfl) rfl (fun _=>rfl) rfl rfl (row1 rfl) zpu (by decide) zeK (by rw [zdV]; simp; omega) rfl rfl (fun v15=>⟨(kL2 rfl rfl trivial),?_⟩)
 refine TL.conseq 13 (B:=ownA encB 1 4 v15 (zeF l (zaB l m u v) (za1 l m u v) (w+1))) rfl (fun h hh=>by rw [<-zrT (held:=za1 l m u v) ⟨_,_,rfl⟩ (by assumption)]; exact hh) (kL2 rfl rfl trivial) (TL.ownV 13 rfl (fun a5 e5 hv5=>?_))
 subst hv5
 refine TL.late (TL.st 7 #[_] _ rfl rfl rfl rfl rfl rfl zgg rfl rfl trivial (dI (TL.add (((w+1:Nat):Int)) rfl rfl (wrN (by omega)) rfl rfl (xmi rfl (TL.done (TQ.roundK ((w+1,_)) ⟨(show w+1<=l.V by omega),(show l.V - (w+1)<l.V - w by omega)⟩ ⟨rfl,trivial⟩ ⟨rfl,rfl,trivial⟩ (kE5 rfl rfl rfl rfl rfl trivial) (kL8 rfl rfl rfl rfl rfl rfl rfl rfl (kL3 rfl rfl rfl trivial))))))))
 refine xmf rfl (xmi rfl (xms rfl (xms rfl (xz zak rfl (TL.sub ((((za1 l m u v).size - 1:Nat):Int)) rfl rfl (wrN (by omega)) rfl rfl (TL.iaO rfl ha7 rfl zak (by omega) rfl rfl (TL.ldRS 5 (.int _ _) rfl rfl zcP (by omega) (rfl) zad rfl rfl (TL.eqlV rfl rfl rfl rfl ?_))))))))
 refine TL.pickF (.bool _) rfl rfl rfl rfl (TL.bsN 16 [_] (encB (decide (zaG l (runA (zaB l m u v) P.work (0)) (w:Int)=(za1 l m u v)[(za1 l m u v).size - 1]!))) za7 zqw ⟨rfl,trivial⟩ rfl (lit1 rfl) rfl rfl (fun bk16=>⟨(kL2 rfl rfl trivial),?_⟩))
 refine TL.appS 13 16 (d2:=#[decide (zaG l (runA (zaB l m u v) P.work (0)) (w:Int)=(za1 l m u v)[(za1 l m u v).size - 1]!)]) rfl (rfl) rfl (fun _=>rfl) rfl rfl (row1 rfl) zpu (by decide) zeK (by rw [zdV]; simp; omega) rfl rfl (fun v17=>⟨(kL2 rfl rfl trivial),?_⟩)
 refine TL.conseq 13 (B:=ownA encB 1 4 v17 (zeF l (zaB l m u v) (za1 l m u v) (w+1))) rfl (fun h hh=>by rw [<-zu0 (held:=za1 l m u v) ⟨_,_,rfl⟩ (by assumption)]; exact hh) (kL2 rfl rfl trivial) (TL.ownV 13 rfl (fun a5 e5 hv5=>?_))
 subst hv5
 refine TL.late (TL.st 7 #[_] _ rfl rfl rfl rfl rfl rfl zgg rfl rfl trivial (dI (TL.add (((w+1:Nat):Int)) rfl rfl (wrN (by omega)) rfl rfl (xmi rfl (TL.done (TQ.roundK ((w+1,_)) ⟨(show w+1<=l.V by omega),(show l.V - (w+1)<l.V - w by omega)⟩ ⟨rfl,trivial⟩ ⟨rfl,rfl,trivial⟩ (kE5 rfl rfl rfl rfl rfl trivial) (kL8 rfl rfl rfl rfl rfl rfl rfl rfl (kL3 rfl rfl rfl trivial))))))))
 refine dS (TC.condF rfl (TC.exit (TQ.thenExit (TQ.thenExit (TQ.blockHere (TQ.then (TC.seq (TC.seq ?_))))))))
 obtain rfl:w=l.V:=by omega
 have hmg:∀ w:Nat,w<l.V->(zeF l (zaB l m u v) (za1 l m u v) (l.V))[w]! =decide (zaG l (zaB l m u v) (w:Int)∈(za1 l m u v).toList):=fun w hw=>zi5 hw
 refine TC.ownW 13 rfl (fun a6 g6 c6 hv6 hc6 ha6=>?_)
 have hdz:(zeF l (zaB l m u v) (za1 l m u v) (l.V)).size=l.V:=zdV _
 first | subst hv6 | cases hv6
 refine TC.region (xlp 6 zdc rfl rfl (xN0 rfl (xf 0 zaz rfl (xf 0 zaA rfl (xli 0 zad rfl rfl (xmi rfl (dK (TC.loopK (X:=Nat) [3,4,49] [0,1,2,3,4,5,6,7,9,10,11,12,13] (fun w=>[(50,.int .i64 ((w:Nat):Int))]) (fun w=>[]) (fun w=>w<=l.V) (fun w=>l.V - w) (0) (Nat.zero_le _) ⟨rfl,trivial⟩ trivial (fun w hI=>?_)))))))))
 refine TC.sub (env':=[(50,_),(3,_),(4,_),(49,_)]) (L':=[(0,_),(1,_),(2,_),(3,_),(4,_),(5,_),(6,_),(7,_),(9,_),(10,_),(11,_),(12,_),(13,_)]) ⟨rfl,rfl,rfl,rfl,trivial⟩ ⟨rfl,rfl,rfl,rfl,rfl,rfl,rfl,rfl,rfl,rfl,rfl,rfl,rfl,trivial⟩ (sA (TL.lss rfl rfl rfl rfl (fun q3=>?_) (fun q3=>?_)))
 refine dS (TC.condT rfl (TC.skip (TQ.then (TC.seq (TC.block (sA (xmi rfl (xai rfl ?_))))))))
 refine dS (TC.draw (od [1,3,5,7,9,11,13,14,16,18,21]) [0,6] fc_m (by kernel_rfl) (xlp 6 zdc rfl rfl (xlp 6 zdc rfl rfl (xN0 rfl (xf 0 zaz rfl (xL3 0 zab rfl rfl (xlp 6 zdc rfl rfl (xmi rfl ?_))))))))
 refine xd [0,1] (zb9 hl) zfp rfl (kL2 rfl rfl trivial) (xd [] (zaV hl) zbQ rfl (kL2 rfl rfl trivial) (xd [0,1] zfC zmM rfl (kL2 rfl rfl trivial) (xai rfl (dA (xlv 7 zgg rfl rfl (xmi rfl (TL.iaO rfl ha6 rfl za7 (by rw [hdz]; omega) rfl rfl (TL.ldRS 13 (.bool _) rfl rfl (zaL ha6) (by rw [hdz]; omega) (rfl) zdb rfl rfl ?_))))))))
 refine xmb rfl (TL.cases rfl (fun q4=>?_) (fun q4=>?_))
 refine xmi rfl (TL.neqF rfl rfl (fun h9=>h9 ((hlk w (by omega)).trans (if_pos (of_decide_eq_true ((hmg w (by omega)).symm.trans (by assumption)))))) rfl rfl (xpG rfl (xmf rfl (xlv 7 zgg rfl rfl (xmi rfl (TL.iaO rfl ha6 rfl za7 (by rw [hdz]; omega) rfl rfl (TL.ldRS 13 (.bool _) rfl rfl (zaL ha6) (by rw [hdz]; omega) (rfl) zdb rfl rfl (TL.not _ _ rfl rfl rfl rfl ?_))))))))
 refine xmb rfl (TL.cases rfl (fun q5=>?_) (fun q5=>?_))
 refine xmi rfl (TL.neqF rfl rfl (fun h9=>h9 ((hlk w (by omega)).trans (if_neg (of_decide_eq_false ((hmg w (by omega)).symm.trans (by first | assumption | exact nt9 (by assumption))))))) rfl rfl (xpG rfl (xpF rfl (TL.done (TQ.then (TC.condF rfl (TC.skip (TQ.inBlock ?_))))))))
 refine TQ.then (TC.region (TL.add (((w+1:Nat):Int)) rfl rfl (wrN (by omega)) rfl rfl (xmi rfl (TL.done (TQ.roundK (w+1) ⟨by omega,by omega⟩ ⟨rfl,trivial⟩ trivial (kE3 rfl rfl rfl trivial) (kL8 rfl rfl rfl rfl rfl rfl rfl rfl (kL5 rfl rfl rfl rfl rfl trivial)))))))
 refine xo rfl (xo rfl (xpF rfl (xpF rfl (TL.done (TQ.then (TC.condF rfl (TC.skip (TQ.inBlock ?_))))))))
 refine TQ.then (TC.region (TL.add (((w+1:Nat):Int)) rfl rfl (wrN (by omega)) rfl rfl (xmi rfl (TL.done (TQ.roundK (w+1) ⟨by omega,by omega⟩ ⟨rfl,trivial⟩ trivial (kE3 rfl rfl rfl trivial) (kL8 rfl rfl rfl rfl rfl rfl rfl rfl (kL5 rfl rfl rfl rfl rfl trivial)))))))
 refine xo rfl (xo rfl (xpF rfl (xmf rfl (xlv 7 zgg rfl rfl (xmi rfl (TL.iaO rfl ha6 rfl za7 (by rw [hdz]; omega) rfl rfl (TL.ldRS 13 (.bool _) rfl rfl (zaL ha6) (by rw [hdz]; omega) (rfl) zdb rfl rfl (TL.not _ _ rfl rfl rfl rfl ?_))))))))
 refine xmb rfl (TL.cases rfl (fun q5=>?_) (fun q5=>?_))
 refine xmi rfl (TL.neqF rfl rfl (fun h9=>h9 ((hlk w (by omega)).trans (if_neg (of_decide_eq_false ((hmg w (by omega)).symm.trans (by first | assumption | exact nt9 (by assumption))))))) rfl rfl (xpG rfl (xpF rfl (TL.done (TQ.then (TC.condF rfl (TC.skip (TQ.inBlock ?_))))))))
 refine TQ.then (TC.region (TL.add (((w+1:Nat):Int)) rfl rfl (wrN (by omega)) rfl rfl (xmi rfl (TL.done (TQ.roundK (w+1) ⟨by omega,by omega⟩ ⟨rfl,trivial⟩ trivial (kE3 rfl rfl rfl trivial) (kL8 rfl rfl rfl rfl rfl rfl rfl rfl (kL5 rfl rfl rfl rfl rfl trivial)))))))
 refine xo rfl (xo rfl (xpF rfl (xpF rfl (TL.done (TQ.then (TC.condF rfl (TC.skip (TQ.inBlock ?_))))))))
 refine TQ.then (TC.region (TL.add (((w+1:Nat):Int)) rfl rfl (wrN (by omega)) rfl rfl (xmi rfl (TL.done (TQ.roundK (w+1) ⟨by omega,by omega⟩ ⟨rfl,trivial⟩ trivial (kE3 rfl rfl rfl trivial) (kL8 rfl rfl rfl rfl rfl rfl rfl rfl (kL5 rfl rfl rfl rfl rfl trivial)))))))
 refine dS (TC.condF rfl (TC.exit (TQ.thenExit (TQ.thenExit (TQ.blockHere (TQ.then (sA (xat rfl ?_))))))))
 refine dR (TQ.conseq 5 (B:=rowS _ (za1 l m u v)) rfl (fun _ h=>⟨_,_,_,_,rfl,hc7,ha7,h⟩) ?_)
 refine FQ.ret1 (v:=(.bool true)) (Bs:=[_,_,_,_,_,_,_,_,_,_,_,_]) [0,1,2,3,4,5,6,7,13,9,10,11] rfl rfl rfl ⟨rfl,rfl,rfl,rfl,rfl,rfl,rfl,rfl,rfl,rfl,rfl,rfl,trivial⟩ ?_
 exact ⟨rfl,_,_,rfl,.inr rfl⟩
 refine TL.done (TQ.then (TC.condF rfl (TC.skip (TQ.then (TC.seq (TC.seq ?_))))))
 obtain rfl:=hK.eq (by assumption)
 have hmg:∀ w:Nat,w<l.V->(zeF l (zaB l m u v) (za1 l m u v) (l.V))[w]! =decide (zaG l (zaB l m u v) (w:Int)∈(za1 l m u v).toList):=fun w hw=>zi5 hw
 refine TC.ownW 8 rfl (fun a6 g6 c6 hv6 hc6 ha6=>?_)
 have hdz:(zeF l (zaB l m u v) (za1 l m u v) (l.V)).size=l.V:=zdV _
 first | subst hv6 | cases hv6
 refine TC.region (xlp 6 zdc rfl rfl (xN0 rfl (xf 0 zaz rfl (xf 0 zaA rfl (xli 0 zad rfl rfl (xmi rfl (dK (TC.loopK (X:=Nat) [3,4,49] [0,1,2,3,4,5,6,7,8,9,10,11,12] (fun w=>[(50,.int .i64 ((w:Nat):Int))]) (fun w=>[]) (fun w=>w<=l.V) (fun w=>l.V - w) (0) (Nat.zero_le _) ⟨rfl,trivial⟩ trivial (fun w hI=>?_)))))))))
 refine TC.sub (env':=[(50,_),(3,_),(4,_),(49,_)]) (L':=[(0,_),(1,_),(2,_),(3,_),(4,_),(5,_),(6,_),(7,_),(8,_),(9,_),(10,_),(11,_),(12,_)]) ⟨rfl,rfl,rfl,rfl,trivial⟩ ⟨rfl,rfl,rfl,rfl,rfl,rfl,rfl,rfl,rfl,rfl,rfl,rfl,rfl,trivial⟩ (sA (TL.lss rfl rfl rfl rfl (fun q2=>?_) (fun q2=>?_)))
 refine dS (TC.condT rfl (TC.skip (TQ.then (TC.seq (TC.block (sA (xmi rfl (xai rfl ?_))))))))
 refine dS (TC.draw (od [1,3,5,7,9,11,13,14,16,18,21]) [0,6] fc_m (by kernel_rfl) (xlp 6 zdc rfl rfl (xlp 6 zdc rfl rfl (xN0 rfl (xf 0 zaz rfl (xL3 0 zab rfl rfl (xlp 6 zdc rfl rfl (xmi rfl ?_))))))))
 refine xd [0,1] (zb9 hl) zfp rfl (kL2 rfl rfl trivial) (xd [] (zaV hl) zbQ rfl (kL2 rfl rfl trivial) (xd [0,1] zfC zmM rfl (kL2 rfl rfl trivial) (xai rfl (dA (xlv 7 zgg rfl rfl (xmi rfl (TL.iaO rfl ha6 rfl za7 (by rw [hdz]; omega) rfl rfl (TL.ldRS 8 (.bool _) rfl rfl (zaL ha6) (by rw [hdz]; omega) (rfl) zdb rfl rfl ?_))))))))
 refine xmb rfl (TL.cases rfl (fun q3=>?_) (fun q3=>?_))
 refine xmi rfl (TL.neqF rfl rfl (fun h9=>h9 ((hlk w (by omega)).trans (if_pos (of_decide_eq_true ((hmg w (by omega)).symm.trans (by assumption)))))) rfl rfl (xpG rfl (xmf rfl (xlv 7 zgg rfl rfl (xmi rfl (TL.iaO rfl ha6 rfl za7 (by rw [hdz]; omega) rfl rfl (TL.ldRS 8 (.bool _) rfl rfl (zaL ha6) (by rw [hdz]; omega) (rfl) zdb rfl rfl (TL.not _ _ rfl rfl rfl rfl ?_))))))))
 refine xmb rfl (TL.cases rfl (fun q4=>?_) (fun q4=>?_))
 refine xmi rfl (TL.neqF rfl rfl (fun h9=>h9 ((hlk w (by omega)).trans (if_neg (of_decide_eq_false ((hmg w (by omega)).symm.trans (by first | assumption | exact nt9 (by assumption))))))) rfl rfl (xpG rfl (xpF rfl (TL.done (TQ.then (TC.condF rfl (TC.skip (TQ.inBlock ?_))))))))
 refine TQ.then (TC.region (TL.add (((w+1:Nat):Int)) rfl rfl (wrN (by omega)) rfl rfl (xmi rfl (TL.done (TQ.roundK (w+1) ⟨by omega,by omega⟩ ⟨rfl,trivial⟩ trivial (kE3 rfl rfl rfl trivial) (kL8 rfl rfl rfl rfl rfl rfl rfl rfl (kL5 rfl rfl rfl rfl rfl trivial)))))))
 refine xo rfl (xo rfl (xpF rfl (xpF rfl (TL.done (TQ.then (TC.condF rfl (TC.skip (TQ.inBlock ?_))))))))
 refine TQ.then (TC.region (TL.add (((w+1:Nat):Int)) rfl rfl (wrN (by omega)) rfl rfl (xmi rfl (TL.done (TQ.roundK (w+1) ⟨by omega,by omega⟩ ⟨rfl,trivial⟩ trivial (kE3 rfl rfl rfl trivial) (kL8 rfl rfl rfl rfl rfl rfl rfl rfl (kL5 rfl rfl rfl rfl rfl trivial)))))))
 refine xo rfl (xo rfl (xpF rfl (xmf rfl (xlv 7 zgg rfl rfl (xmi rfl (TL.iaO rfl ha6 rfl za7 (by rw [hdz]; omega) rfl rfl (TL.ldRS 8 (.bool _) rfl rfl (zaL ha6) (by rw [hdz]; omega) (rfl) zdb rfl rfl (TL.not _ _ rfl rfl rfl rfl ?_))))))))
 refine xmb rfl (TL.cases rfl (fun q4=>?_) (fun q4=>?_))
 refine xmi rfl (TL.neqF rfl rfl (fun h9=>h9 ((hlk w (by omega)).trans (if_neg (of_decide_eq_false ((hmg w (by omega)).symm.trans (by first | assumption | exact nt9 (by assumption))))))) rfl rfl (xpG rfl (xpF rfl (TL.done (TQ.then (TC.condF rfl (TC.skip (TQ.inBlock ?_))))))))
 refine TQ.then (TC.region (TL.add (((w+1:Nat):Int)) rfl rfl (wrN (by omega)) rfl rfl (xmi rfl (TL.done (TQ.roundK (w+1) ⟨by omega,by omega⟩ ⟨rfl,trivial⟩ trivial (kE3 rfl rfl rfl trivial) (kL8 rfl rfl rfl rfl rfl rfl rfl rfl (kL5 rfl rfl rfl rfl rfl trivial)))))))
 refine xo rfl (xo rfl (xpF rfl (xpF rfl (TL.done (TQ.then (TC.condF rfl (TC.skip (TQ.inBlock ?_))))))))
 refine TQ.then (TC.region (TL.add (((w+1:Nat):Int)) rfl rfl (wrN (by omega)) rfl rfl (xmi rfl (TL.done (TQ.roundK (w+1) ⟨by omega,by omega⟩ ⟨rfl,trivial⟩ trivial (kE3 rfl rfl rfl trivial) (kL8 rfl rfl rfl rfl rfl rfl rfl rfl (kL5 rfl rfl rfl rfl rfl trivial)))))))
 refine dS (TC.condF rfl (TC.exit (TQ.thenExit (TQ.thenExit (TQ.blockHere (TQ.then (sA (xat rfl ?_))))))))
 refine dR (TQ.conseq 5 (B:=rowS _ (za1 l m u v)) rfl (fun _ h=>⟨_,_,_,_,rfl,hc7,ha7,h⟩) ?_)
 refine FQ.ret1 (v:=(.bool true)) (Bs:=[_,_,_,_,_,_,_,_,_,_,_,_]) [0,1,2,3,4,5,6,7,8,9,10,11] rfl rfl rfl ⟨rfl,rfl,rfl,rfl,rfl,rfl,rfl,rfl,rfl,rfl,rfl,rfl,trivial⟩ ?_
 exact ⟨rfl,_,_,rfl,.inr rfl⟩
set_option maxHeartbeats 2000000 in
theorem zr9 {l:Lay} (hl:l.Ok) {pb ab mb:Nat} {pr:Int->Int} {k:Nat} {m:Array UInt64} {tg:Int} {g:G} {d:Array EdR} {P:PlanS} {u v s:Int} {g2:G} {d2:Array EdR} (hk:k<=24) (hP:P19 l pr k m tg g d) (hC:Cl19 l pr k m tg g d P u v s g2 d2) {xa:Option Addr} {xc:Nat} {ya:Option Addr} {yc:Nat} {va v2:Value} {bp:Nat} {A1 A2 A3 A4 A5:Assn}:FnD Tryz.prog 46 [.agg #[.slice xa (P).work.size xc,.int .i64 P.point,.bool P.tree,.slice ya (P).roots.size yc],va,.pointer (some ⟨bp,0,none⟩)] [pt pb (.cells #[.int .i64 l.V,.int .i64 l.S,.int .i64 l.T,.pointer (some ⟨ab,0,none⟩),.int .i64 (tg),v2] 57),zam ab mb 139 29 (runM (zaB l m u v) P.work.toList),ownA encE 5 80 v2 d2,ownA zat 3 34 (.slice xa (P).work.size xc) (P.work),rowS (.slice ya (P).roots.size yc) P.roots,rowS va (za1 l m u v),pt bp (.cells #[.pointer (some ⟨pb,0,none⟩)] 46),A1,A2,A3,A4,A5] (.bool true) [pt pb (.cells #[.int .i64 l.V,.int .i64 l.S,.int .i64 l.T,.pointer (some ⟨ab,0,none⟩),.int .i64 (tg),v2] 57),zam ab mb 139 29 (runM (zaB l m u v) P.work.toList),ownA encE 5 80 v2 d2,ownA zat 3 34 (.slice xa (P).work.size xc) (P.work),rowS (.slice ya (P).roots.size yc) P.roots,rowS va (za1 l m u v),pt bp (.cells #[.pointer (some ⟨pb,0,none⟩)] 46),A1,A2,A3,A4,A5]:=by
 have hb:=zdH hl
 have hT:1<=l.T:=by omega
 have hnb:=zaF hl
 refine Fn.enter (Tryz.func46) rfl rfl (fun w0 R=>?_)
 refine sA (xB 12 rfl (fun bk12=>(xaf rfl (dA (TL.mkMA 13 (fun z:Int=>.int .i64 z) (Value.bool) rfl rfl (fun bk13=>⟨trivial,?_⟩))))))
 refine TL.asg (.map _) rfl rfl rfl (dB (xlp 6 zdc rfl rfl (xN0 rfl (xf 0 zaz rfl (xf 0 zaA rfl (xli 0 zad rfl rfl (xmi rfl (dK ?_))))))))
 refine TC.loopK (X:=Nat) [2,5,6,14] [0,1,2,3,4,5,6,7,8,9,10,11,12] (fun w=>[(15,.int .i64 ((w:Nat):Int))]) (fun w=>[(13,mapA bk13 (fun z:Int=>.int .i64 z) Value.bool (ziU l (runM (zaB l m u v) P.work.toList) (w)))]) (fun w=>w<=l.V) (fun w=>l.V - w) (0) (Nat.zero_le _) ⟨rfl,trivial⟩ ⟨rfl,trivial⟩ (fun w hI=>(TC.sub (env':=[(15,_),(2,_),(5,_),(6,_),(14,_)]) (L':=[(13,_),(0,_),(1,_),(2,_),(3,_),(4,_),(5,_),(6,_),(7,_),(8,_),(9,_),(10,_),(11,_),(12,_)]) ⟨rfl,rfl,rfl,rfl,rfl,trivial⟩ ⟨rfl,rfl,rfl,rfl,rfl,rfl,rfl,rfl,rfl,rfl,rfl,rfl,rfl,rfl,trivial⟩ (sA ?_)))
 refine TL.lss rfl rfl rfl rfl (fun q1=>?_) (fun q1=>?_)
 refine dS (TC.condT rfl (TC.skip (TQ.then (TC.seq (TC.block (sA (xmi rfl (xai rfl ?_))))))))
 refine dG (TL.mv (.map _) rfl rfl rfl (xlp 6 zdc rfl rfl (xmi rfl (xD [0,1] (zb9 hl) zfp rfl (TL.muA 13 (q:=zaG l (runM (zaB l m u v) P.work.toList) (w:Int)) (b:=true) rfl rfl rfl rfl zkv (zge zaO) rfl rfl trivial (dI (TL.add (((w+1:Nat):Int)) rfl rfl (wrN (by omega)) rfl rfl (xmi rfl ?_))))))))
 refine TL.done (TQ.roundK (w+1) ⟨by omega,by omega⟩ ⟨rfl,trivial⟩ ⟨rfl,trivial⟩ (kE4 rfl rfl rfl rfl trivial) (kL8 rfl rfl rfl rfl rfl rfl rfl rfl (kL5 rfl rfl rfl rfl rfl trivial)))
 refine dS (TC.condF rfl (TC.exit (TQ.thenExit (TQ.thenExit (TQ.blockHere (TQ.then (TC.seq (TC.seq ?_))))))))
 obtain rfl:w=l.V:=by omega
 refine TC.region (xai rfl (dK (TC.loopK (X:=Nat) [2,6] [0,1,2,3,4,5,6,7,8,9,10,11,12,13] (fun x=>[(8,.int .i64 ((x+1:Nat):Int))]) (fun x=>[]) (fun x=>(x:Int)<=l.nodes) (fun x=>l.nodes.toNat - x) (0) (by omega) ⟨rfl,trivial⟩ trivial (fun x hI=>(TC.sub (env':=[(8,_),(2,_),(6,_)]) (L':=[(0,_),(1,_),(2,_),(3,_),(4,_),(5,_),(6,_),(7,_),(8,_),(9,_),(10,_),(11,_),(12,_),(13,_)]) ⟨rfl,rfl,rfl,trivial⟩ ⟨rfl,rfl,rfl,rfl,rfl,rfl,rfl,rfl,rfl,rfl,rfl,rfl,rfl,rfl,trivial⟩ (sB (xmi rfl (xlp 6 zdc rfl rfl (xN0 rfl ?_)))))))))
 refine xf 0 zaz rfl (xL3 0 zab rfl rfl (xD [] (zem hl) zh3 rfl (TL.leq rfl rfl rfl rfl (fun q2=>?_) (fun q2=>?_))))
 refine TL.done (TQ.then (TC.condT rfl (TC.skip (TQ.then (TC.seq (TC.block (TC.seq (TC.draw (od [1,3,4,7,9,11,13,15,17,19,21,22,24,27,29]) [0,6] fc_m (by kernel_rfl) ?_))))))))
 refine TL.mv (.map _) rfl rfl rfl (xmi rfl (TL.lkD1 13 (q:=((x+1:Nat):Int)) (false) rfl rfl rfl zkv (zge zaO) zqw rfl rfl (kL2 rfl rfl trivial) (TL.cases rfl (fun q3=>?_) (fun q3=>?_))))
 refine xnt rfl (xmf rfl (xo rfl (xo rfl (xo rfl (xo rfl (xo rfl (xo rfl (xo rfl ?_))))))))
 refine xo rfl (xo rfl (xpF rfl (TL.done (TQ.then (TC.condF rfl (TC.skip (TQ.inBlock (TQ.then ?_))))))))
 refine TC.region (xmi rfl (TL.add (((x+2:Nat):Int)) rfl rfl (wrN (by omega)) rfl rfl (xai rfl (TL.done (TQ.roundK (x+1) ⟨by omega,by omega⟩ ⟨rfl,trivial⟩ trivial (kE2 rfl rfl trivial) (kL8 rfl rfl rfl rfl rfl rfl rfl rfl (kL6 rfl rfl rfl rfl rfl rfl trivial)))))))
 refine xnf rfl (xmt rfl (xlp 6 zdc rfl rfl (xlp 6 zdc rfl rfl (xN0 rfl (xf 0 zaz rfl (xL3 0 zab rfl rfl (xmi rfl (xd [] (zaV hl) zbQ rfl (kL2 rfl rfl trivial) ?_))))))))
 refine xd [0,1] zfC zmM rfl (kL2 rfl rfl trivial) (TL.neqF rfl rfl (fun h9=>h9 (hC.closed hl hP hT (by omega) ⟨by omega,by omega⟩ (zrh (by first | assumption | exact nt9 (by assumption))))) rfl rfl (xpG rfl (TL.done (TQ.then (TC.condF rfl (TC.skip (TQ.inBlock (TQ.then ?_))))))))
 refine TC.region (xmi rfl (TL.add (((x+2:Nat):Int)) rfl rfl (wrN (by omega)) rfl rfl (xai rfl (TL.done (TQ.roundK (x+1) ⟨by omega,by omega⟩ ⟨rfl,trivial⟩ trivial (kE2 rfl rfl trivial) (kL8 rfl rfl rfl rfl rfl rfl rfl rfl (kL6 rfl rfl rfl rfl rfl rfl trivial)))))))
 refine dE rfl (sA (xat rfl (dR ?_)))
 refine FQ.ret1 (v:=(.bool true)) (Bs:=[_,_,_,_,_,_,_,_,_,_,_,_]) [0,1,2,3,4,5,6,7,8,9,10,11] rfl rfl rfl ⟨rfl,rfl,rfl,rfl,rfl,rfl,rfl,rfl,rfl,rfl,rfl,rfl,trivial⟩ ?_
 exact ⟨rfl,rfl⟩
theorem zr4 {l:Lay} (hl:l.Ok) {pb ab mb bp:Nat} {σ:Array UInt64} {pr:Int->Int} {g0:G} (h0:P19 l pr 0 σ 0 g0 #[]) {oa:Option Addr} {on oc bo offo:Nat} {Ao:Assn} {fo:Nat->Op3} (hoa:0<on->oa=some ⟨bo,offo,none⟩) (hAo:zbh Ao ztz 3 bo offo on fo) (hon:on<=24) {da:Option Addr} {dn dc:Nat} {bm:Nat}:Go.Eng.Fn Tryz.prog 37 [.pointer (some ⟨pb,0,none⟩),.agg #[.int .i64 l.V,.int .i64 l.S,.int .i64 l.T,.slice da dn dc,.slice oa on oc],.func (.func 44) #[] #[.pointer (some ⟨bm,0,none⟩),.pointer (some ⟨bp,0,none⟩)],.func (.func 46) #[] #[.pointer (some ⟨bp,0,none⟩)]] [pt pb (.cells #[.int .i64 l.V,.int .i64 l.S,.int .i64 l.T,.pointer (some ⟨ab,0,none⟩),.int .i64 (0),.slice none 0 0] 57),zam ab mb 139 29 (σ),ownA encE 5 80 (.slice none 0 0) #[],Ao,pt bp (.cells #[.pointer (some ⟨pb,0,none⟩)] 46),pt bm (.cells #[.slice none 0 0] 81),ownA encB 1 4 (.slice none 0 0) #[],emp,emp,emp] (fun r Bs=>r=.bool true/\∃ A0 A1 A2 A3 A4 A5 A6 A7 A8,Bs=[A0,A1,A2,Ao,A3,A4,A5,A6,A7,A8]):=by
 exact (zpR hl (κ:=Value×Array Bool) (C0:=fun _=>pt bp (.cells #[.pointer (some ⟨pb,0,none⟩)] 46)) (C1:=fun x=>pt bm (.cells #[x.1] 81)) (C2:=fun x=>ownA encB 1 4 x.1 x.2) (C3:=fun _=>emp) (C4:=fun _=>emp) (C5:=fun _=>emp) (J:=fun _ _ _ _ _=>True)
  (K:=fun k m tg d P u v d2 n x=>zm4 l (zaB l m u v) (za1 l m u v) n x.2) (ce:=[.pointer (some ⟨bm,0,none⟩),.pointer (some ⟨bp,0,none⟩)]) (cl:=[.pointer (some ⟨bp,0,none⟩)]) zz2 zz1 (fun _ _ _ _=>.inl rfl)
  (fun hk hP hC hn hK=>(zsa hl hk hP hC hn hK).mono fun r Bs ⟨h1,mv2,dm2,h2,h3⟩=>⟨h1,(mv2,dm2),h2,h3⟩) (fun {k m tg g d P u v s g2 d2 x xa xc ya yc va v2} hk hP hC hK=>(zr9 hl hk hP hC).mono fun r Bs ⟨h1,h2⟩=>⟨h1,x,h2,trivial⟩) hoa hAo hon h0 (x0:=(.slice none 0 0,#[])) trivial).mono fun r Bs ⟨h1,_,_,_,_,_,h2⟩=>⟨h1,_,_,_,_,_,_,_,_,_,h2⟩
theorem zu3 {V S T:Int}  {da oa:Option Addr} {dn dc on oc:Nat} (hno:¬(okL V S T/\V<=6/\S<=8/\dn<=60/\on<=24)):FnD Tryz.prog 6 [.agg #[.int .i64 V,.int .i64 S,.int .i64 T,.slice da dn dc,.slice oa on oc]] [] (.bool true) []:=by
 refine Fn.enter (Tryz.func6) rfl rfl (fun w0 R=>?_)
 refine sA (xB 0 rfl (fun bk0=>(xaf rfl (dB (xL5 0 ziw rfl rfl (xD [] zj7 zwv rfl ?_))))))
 rw [decide_eq_false hno]
 refine xnf rfl (dT rfl (xD [] zkD zww rfl (xat rfl (dRR ?_))))
 refine FQ.ret1 (v:=(.bool true)) (Bs:=[]) [] rfl rfl rfl trivial ?_
 exact ⟨rfl,rfl⟩
set_option maxHeartbeats 1000000 in
theorem zu4 {l:Lay} (hl:l.Ok) {da oa:Option Addr} {dn dc on oc:Nat} {Ad:Assn} {bd offd bo offo:Nat} {fd:Nat->Int} {fo:Nat->Op3} (hda:0<dn->da=some ⟨bd,offd,none⟩) (hAd:zbh Ad encU 1 bd offd dn fd) (hfd:∀ i,i<dn->0<=fd i/\fd i<18446744073709551616) (hoa:0<on->oa=some ⟨bo,offo,none⟩) (hAo:zbh Ad ztz 3 bo offo on fo) (hoc:on<=oc) (hok:(okL l.V l.S l.T/\(l.V:Int)<=6/\(l.S:Int)<=8/\dn<=60/\on<=24)):FnD Tryz.prog 6 [.agg #[.int .i64 l.V,.int .i64 l.S,.int .i64 l.T,.slice da dn dc,.slice oa on oc]] [Ad] (.bool true) [Ad]:=by
 obtain ⟨hk1,hk2,hk3,hk4,hk5⟩:=hok
 have hok:(okL l.V l.S l.T/\(l.V:Int)<=6/\(l.S:Int)<=8/\dn<=60/\on<=24):=⟨hk1,hk2,hk3,hk4,hk5⟩
 have hdn:dn<=60:=by omega
 have hon:on<=24:=by omega
 have hnb:=zaF hl
 have hcb:=zfK hl
 have hlb:=zck hl
 have hob:=zb5 hl
 have hlk:=zdH hl
 have hhd:l.heads=l.T+1+l.S * 7:=rfl
 refine Fn.enter (Tryz.func6) rfl rfl (fun w0 R=>?_)
 refine sA (xB 1 rfl (fun bk1=>(xaf rfl (dB (xL5 1 ziw rfl rfl (xD [] zj7 zwv rfl ?_))))))
 rw [decide_eq_true hok]
 refine xnt rfl (dF rfl (xL5 1 ziw rfl rfl (TL.call [0] [0,2,3] (zkC hl hda hAd hfd (by omega)) ⟨rfl,trivial⟩ ⟨rfl,trivial⟩ zwu rfl rfl rfl rfl ?_)))
 rintro x Bs ⟨pb,ab,mb,rfl,rfl⟩
 refine ⟨rfl,trivial,?_⟩
 have h0:=P19.born hl (ztX hl hfd (N:=l.cells.toNat) (by omega))
 refine TL.alloc 4 (cs:=#[.pointer none]) zzI rfl rfl rfl (fun _=>trivial) (fun bk4=>(TL.st 4 #[_] (.pointer (some ⟨_,_,none⟩)) rfl rfl rfl rfl rfl rfl zdc rfl rfl trivial (dB (xlp 4 zdc rfl rfl (TL.nilP false rfl rfl zwp rfl rfl rfl (dF rfl (TL.alloc 5 (cs:=#[.slice none 0 0]) zzG rfl rfl rfl (fun _=>trivial) (fun bk5=>(dA (TL.mf (xs:=[]) (ys:=[_,_]) [] [_,_] trivial ⟨rfl,rfl,trivial⟩ rfl rfl ?_))))))))))
 refine TL.asg (.func _ _ _) rfl rfl rfl (dA (TL.mf (xs:=[]) (ys:=[_]) [] [_] trivial ⟨rfl,trivial⟩ rfl rfl (TL.asg (.func _ _ _) rfl rfl rfl (dS (TC.nilA 6 (A:=ownA encE 5 80 (.slice none 0 0) #[]) (.inl ⟨rfl,rfl⟩) (TC.nilA 7 (A:=ownA encB 1 4 (.slice none 0 0) #[]) (.inl ⟨rfl,rfl⟩) (TC.nilA 8 (A:=emp) trivial (TC.nilA 9 (A:=emp) trivial ?_))))))))
 refine TC.nilA 10 (A:=emp) trivial (TC.region (xlp 4 zdc rfl rfl (xL5 1 ziw rfl rfl (TL.mv (.func _ _ _) rfl rfl rfl (TL.mv (.func _ _ _) rfl rfl rfl (TL.call [2,3,6,0,4,5,7,8,9,10] [2,3,6,0,4,5,7,8,9,10] (zr4 hl h0 hoa hAo (by omega)) ⟨rfl,rfl,rfl,rfl,trivial⟩ ⟨rfl,rfl,rfl,rfl,rfl,rfl,rfl,rfl,rfl,rfl,trivial⟩ zz4 rfl rfl rfl rfl ?_))))))
 rintro r9 Bs ⟨rfl,A0,A1,A2,A3,A4,A5,A6,A7,A8,rfl⟩
 refine ⟨rfl,trivial,?_⟩
 refine xmt rfl (xD [] zkD zww rfl (xpT rfl (xat rfl (dR ?_))))
 refine FQ.ret1 (v:=(.bool true)) (Bs:=[_]) [0] rfl rfl rfl ⟨rfl,trivial⟩ ?_
 exact ⟨rfl,rfl⟩
end Go.Proofs.YtabjfnfglcghfaaGreat
