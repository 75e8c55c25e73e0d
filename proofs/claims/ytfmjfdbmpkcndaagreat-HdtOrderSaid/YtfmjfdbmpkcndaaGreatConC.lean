import Derived.Test.YtfmjfdbmpkcndaaGreatConB
set_option linter.unusedVariables false
set_option linter.unusedSimpArgs false
set_option maxRecDepth 20000
namespace Go.Proofs.YtfmjfdbmpkcndaaGreat
open Go.Eng Go.Tm
set_option maxHeartbeats 2000000 in
theorem zlj {l:Lay} (hl:l.Ok) {σ:M} {nv:Value} {ca xa:Option Addr} {mr bc offc cn cc bx offx xn xc:Nat} {Acl Ax:Assn} {fc:Nat→Int} {fx:Nat→Nm} {ps:List (Nm×Nat)} (hB:BookOk l σ ca bc offc cn Acl fc xa bx offx xn Ax fx ps) {pr mk:Int→Int} {F:Int→T} (hF:Forest l pr mk σ F) (hlv:∀ x,l.nd x→∀ y∈(F x).list,(l.node y).1.level=(l.node x).1.level) {i:Int}  : Go.Eng.Fn Tryz.prog 72 [.agg #[.int .i64 l.V,.int .i64 l.S,.int .i64 l.T,nv,.slice ca cn cc,.map (some mr),.slice xa xn xc],.int .i64 i] [Acl,mapA mr nmV natV ps,Ax] (fun x Bs=>∃ wv W Rs IA,x=.tuple #[wv,.bool true]∧Bs=[Acl,mapA mr nmV natV ps,Ax,ownA encS 1 77 wv W,IA]∧RsOk IA W Rs∧Rts l σ F i Rs xn):=by
 have hcn:=hB.hcn
 have hxn:=hB.hxn
 have hnb:=zaz hl
 have hcb:=zaO hl
 refine Fn.enter (Tryz.func72) rfl rfl (fun w0 R=>?_)
 refine sA (xB 3 rfl (fun bk3=>(TL.asg (.slice none 0 0) rfl rfl rfl (xaf rfl (dA (xf 6 zby rfl (xls 3 za1 rfl rfl (xas rfl (dA ?_)))))))))
 refine xms rfl (xz zaf rfl (TL.add (((xn+1:Nat):Int)) rfl rfl (wrN (by omega)) rfl rfl (TL.mkO 4 (enc:=encI) (N:=xn+1) (0) rfl rfl za2 zeL rfl (by decide) (by omega) rfl rfl (fun bk4=>⟨trivial,?_⟩))))
 refine xas rfl (dA (TL.asg (.slice none 0 0) rfl rfl rfl (dS (TC.seq (TC.nilA 5 (A:=ownA encS 1 77 (.slice none 0 0) #[]) (.inl ⟨rfl,rfl⟩) (TC.nilA 6 (A:=fun _=>True) trivial (TC.region (xai rfl ?_))))))))
 refine dK (TC.loopK (X:=Nat×Value×Array SlV×Array T×Assn×Array Int) [1,2,6,7] [0,1,2,3] (fun ⟨k,w,W,Rs,IA,D⟩=>[(9,.int .i64 ((k:Nat):Int)),(8,w)]) (fun ⟨k,w,W,Rs,IA,D⟩=>[(5,ownA encS 1 77 w W),(6,IA),(4,ownA encI 1 3 (.slice (some ⟨bk4,0,none⟩) (xn+1) (xn+1)) D)]) (fun ⟨k,w,W,Rs,IA,D⟩=>(k≤xn∧D.size=xn+1)∧RsOk IA W Rs∧Rts l σ F i Rs k∧zd7 Rs Rs.size [] D) (fun ⟨k,w,W,Rs,IA,D⟩=>xn - k) ((0,_,#[],#[],fun _=>True,Array.replicate (xn+1) 0)) ⟨⟨Nat.zero_le _,by simp⟩,RsOk.nil,Rts.nil,zd7.start⟩ ⟨rfl,rfl,trivial⟩ ⟨rfl,rfl,rfl,trivial⟩ (fun y hI=>?_))
 obtain ⟨k,w,W,Rs,IA,D⟩:=y
 obtain ⟨⟨hk,hDz⟩,hR,hRt,hSe⟩:=hI
 replace hk:k≤xn:=hk
 replace hDz:D.size=xn+1:=hDz
 replace hR:RsOk IA W Rs:=hR
 replace hRt:Rts l σ F i Rs k:=hRt
 replace hSe:zd7 Rs Rs.size [] D:=hSe
 refine TC.sub (env':=[(9,_),(8,_),(1,_),(2,_),(6,_),(7,_)]) (L':=[(5,_),(6,_),(4,_),(0,_),(1,_),(2,_),(3,_)]) ⟨rfl,rfl,rfl,rfl,rfl,rfl,trivial⟩ ⟨rfl,rfl,rfl,rfl,rfl,rfl,rfl,trivial⟩ (sB (xmi rfl (xms rfl (xz zaf rfl (TL.lss rfl rfl rfl rfl (fun q1=>?_) (fun q1=>?_))))))
 refine TL.done (TQ.then (TC.condT rfl (TC.skip (TQ.then (TC.seq (TC.block (TC.seq (TC.seq ?_))))))))
 have hnk:l.nd ((k:Int)+1):=⟨by omega,by omega⟩
 have hnm:=hB.hfx k (by omega)
 have hle:=hRt.le hF
 have hRz:=hR.size
 refine TC.region (xms rfl (xmi rfl (TL.iaO rfl hB.hx rfl zaf (by omega) rfl rfl (TL.ldRx 2 [_,_,_,_] rfl rfl hB.hX (by omega) rfl zaG rfl rfl (TL.callD [] [] zhM ⟨rfl,trivial⟩ trivial zid rfl rfl rfl rfl rfl trivial ?_)))))
 rw [hnm.level hl]
 refine xmi rfl (TL.neq rfl rfl rfl rfl (fun q2=>?_) (fun q2=>?_))
 refine xmt rfl (xo rfl (xo rfl (xo rfl (xo rfl (xo rfl (xo rfl (xpT rfl (TL.done ?_))))))))
 refine TQ.then (TC.condT rfl (TC.exit (TQ.thenExit (TQ.blockHere (TQ.then (TC.region (xmi rfl (TL.add _ rfl rfl (wr64 (by omega)) rfl rfl ?_))))))))
 refine xai rfl (TL.done (TQ.roundK ((k+1,_,W,Rs,IA,D)) ⟨⟨⟨(show k+1≤xn by omega),hDz⟩,hR,hRt.skip (fun hc=>by have:=hc.1; omega),hSe⟩,(show xn - (k+1)<xn - k by omega)⟩ ⟨rfl,rfl,trivial⟩ ⟨rfl,rfl,rfl,trivial⟩ (kE4 rfl rfl rfl rfl trivial) (kL4 rfl rfl rfl rfl trivial)))
 refine xmf rfl (xL7 3 zai rfl rfl (xmi rfl (TL.add _ rfl rfl (wr64 (by omega)) rfl rfl (xmi rfl (TL.callD [0,1,2] [0,1,2] (zhr hl hB hF hnk (by omega)) ⟨rfl,rfl,rfl,trivial⟩ ⟨rfl,rfl,rfl,trivial⟩ zm3 rfl rfl rfl rfl rfl trivial (TL.neq rfl rfl rfl rfl (fun q3=>?_) (fun q3=>?_)))))))
 refine xpH rfl (TL.done (TQ.then (TC.condT rfl (TC.exit (TQ.thenExit (TQ.blockHere (TQ.then (TC.region ?_))))))))
 refine xmi rfl (TL.add _ rfl rfl (wr64 (by omega)) rfl rfl (xai rfl (TL.done (TQ.roundK ((k+1,_,W,Rs,IA,D)) ⟨⟨⟨(show k+1≤xn by omega),hDz⟩,hR,hRt.skip (fun hc=>by have:=hc.2; omega),hSe⟩,(show xn - (k+1)<xn - k by omega)⟩ ⟨rfl,rfl,trivial⟩ ⟨rfl,rfl,rfl,trivial⟩ (kE4 rfl rfl rfl rfl trivial) (kL4 rfl rfl rfl rfl trivial)))))
 refine xpF rfl (dF rfl (xL7 3 zai rfl rfl (xmi rfl (TL.add _ rfl rfl (wr64 (by omega)) rfl rfl ?_))))
 have hpk:parent l σ ((k:Int)+1)=0:=by omega
 have hlk:(l.node ((k:Int)+1)).1.level=i:=by omega
 have hroot:=hF.first hnk hpk
 have hrN:=hF.rowN hnk
 have hb:=zqf (nv:=nv) (mr:=mr) (cc:=cc) (xc:=xc) hl hB (dep:=0) (hF.rep _ hnk) (Nat.lt_succ_self _) (by omega) (by omega)
 rw [hroot] at hb
 have hsz8:(F ((k:Int)+1)).list.toArray.size=(F ((k:Int)+1)).list.length:=by simp
 have hszT:(F ((k:Int)+1)).list.length=(F ((k:Int)+1)).size:=rfl
 have hget:∀ q,q<(F ((k:Int)+1)).list.toArray.size→(F ((k:Int)+1)).list.toArray[q]!∈(F ((k:Int)+1)).list:=fun q hq=>by rw [getElem!_pos _ q hq]; simp
 have hndL:∀ q,q<(F ((k:Int)+1)).list.toArray.size→l.nd (F ((k:Int)+1)).list.toArray[q]!:=fun q hq=>(hF.rep _ hnk).nd _ (hget q hq)
 have hlvL:∀ q,q<(F ((k:Int)+1)).list.toArray.size→(l.node (F ((k:Int)+1)).list.toArray[q]!).1.level=i:=fun q hq=>(hlv _ hnk _ (hget q hq)).trans hlk
 refine TL.call [0,1,2] [0,1,2,7] hb ⟨rfl,rfl,rfl,trivial⟩ ⟨rfl,rfl,rfl,trivial⟩ zjY rfl rfl rfl rfl ?_
 rintro x8 Bs ⟨v8,rfl,rfl⟩
 refine ⟨rfl,trivial,?_⟩
 refine TL.ownW 7 rfl (fun a8 g8 c8 hv8 hc8 ha8=>?_)
 subst hv8
 refine xmu rfl (xes rfl rfl (xet rfl rfl (xas rfl (xat rfl (dB (xmt rfl (xnt rfl (TL.done ?_))))))))
 refine TQ.then (TC.condF rfl (TC.skip (TQ.then (sB (xai rfl (dK (TC.loopK (X:=Nat×Array Int) [1,2,6,7,8,9,10] [0,1,2,3,5,6,7] (fun ⟨q,D⟩=>[(12,.int .i64 ((q:Nat):Int))]) (fun ⟨q,D⟩=>[(4,ownA encI 1 3 (.slice (some ⟨bk4,0,none⟩) (xn+1) (xn+1)) D)]) (fun ⟨q,D⟩=>(q≤(F ((k:Int)+1)).list.toArray.size∧D.size=xn+1)∧zd7 Rs Rs.size ((F ((k:Int)+1)).list.take q) D) (fun ⟨q,D⟩=>(F ((k:Int)+1)).list.toArray.size - q) ((0,D)) ⟨⟨Nat.zero_le _,hDz⟩,by simpa using hSe⟩ ⟨rfl,trivial⟩ ⟨rfl,trivial⟩ (fun y hI=>?_))))))))
 obtain ⟨q,D⟩:=y
 obtain ⟨⟨hq,hDz⟩,hSe⟩:=hI
 replace hq:q≤(F ((k:Int)+1)).list.toArray.size:=hq
 replace hDz:D.size=xn+1:=hDz
 replace hSe:zd7 Rs Rs.size ((F ((k:Int)+1)).list.take q) D:=hSe
 refine TC.sub (env':=[(12,_),(1,_),(2,_),(6,_),(7,_),(8,_),(9,_),(10,_)]) (L':=[(4,_),(0,_),(1,_),(2,_),(3,_),(5,_),(6,_),(7,_)]) ⟨rfl,rfl,rfl,rfl,rfl,rfl,rfl,rfl,trivial⟩ ⟨rfl,rfl,rfl,rfl,rfl,rfl,rfl,rfl,trivial⟩ (sB (xmi rfl (xms rfl (xz zae rfl (TL.lss rfl rfl rfl rfl (fun q4=>?_) (fun q4=>?_))))))
 refine TL.done (TQ.then (TC.condT rfl (TC.skip (TQ.then (TC.seq (TC.block (TC.seq ?_)))))))
 obtain ⟨z,hz⟩:∃ z:Nat,(F ((k:Int)+1)).list.toArray[q]! =(z:Int):=⟨((F ((k:Int)+1)).list.toArray[q]!).toNat,by have:=hndL q (by omega); have:=this.1; omega⟩
 have hnz:=hndL q (by omega)
 have hlz:=hlvL q (by omega)
 rw [hz] at hnz hlz
 have hnz1:=hnz.1
 have hnz2:=hnz.2
 have hnmz:=(hB.hfx (z - 1) (by omega)).level hl
 rw [show (((z - 1:Nat):Int)+1)=(z:Int) by omega,hlz] at hnmz
 have hDb:0≤D[z]!∧D[z]!≤1:=by rw [hSe z (by omega)]; split<;>omega
 refine TC.region (xms rfl (xms rfl (xmi rfl (TL.iaO rfl ha8 rfl zae (by omega) rfl rfl (TL.ldRS 7 (.int .i64 (z:Int)) rfl rfl (zab ha8) (by omega) (by rw [←hz]; rfl) zaa rfl rfl (TL.iaO rfl (fun _=>rfl) rfl zae (by omega) rfl rfl (TL.ldRS 4 (.int _ _) rfl rfl (zcM (by first | omega | (simp; omega))) (by omega) (rfl) zaa rfl rfl (TL.add _ rfl rfl (wr64 (by omega)) rfl rfl ?_))))))))
 refine TL.iaO rfl (fun _=>rfl) rfl zae (by omega) rfl rfl (TL.stOF 4 (o:=0) (i:=z) (cur:=D[z]!) (u:=D[z]!+1) (by omega) rfl rfl rfl rfl (by omega) (rfl) ⟨rfl,rfl⟩ rfl zaa rfl rfl trivial (dA (xms rfl (xms rfl (xmi rfl (TL.iaO rfl ha8 rfl zae (by omega) rfl rfl (TL.ldRS 7 (.int .i64 (z:Int)) rfl rfl (zab ha8) (by omega) (by rw [←hz]; rfl) zaa rfl rfl (TL.sub (((z - 1:Nat):Int)) rfl rfl (wrN (by omega)) rfl rfl ?_))))))))
 refine TL.iaO rfl hB.hx rfl zaf (by omega) rfl rfl (TL.ldRx 2 [_,_,_,_] rfl rfl hB.hX (by omega) rfl zaG rfl rfl (TL.callD [] [] zhM ⟨rfl,trivial⟩ trivial zid rfl rfl rfl rfl rfl trivial ?_))
 rw [hnmz]
 refine xmi rfl (TL.neqF rfl rfl (by omega) rfl rfl (TL.done (TQ.then (TC.condF rfl (TC.skip (TQ.inBlock (TQ.then (TC.region ?_))))))))
 refine xmi rfl (TL.add (((q+1:Nat):Int)) rfl rfl (wrN (by omega)) rfl rfl (xai rfl (TL.done (TQ.roundK ((q+1,_)) ⟨⟨⟨(show q+1≤(F ((k:Int)+1)).list.toArray.size by omega),(show (D.setIfInBounds _ _).size=xn+1 by simp; omega)⟩,hSe.step hF hRt hnk hpk hlk (by simpa using hz) (by omega) (by omega)⟩,(show (F ((k:Int)+1)).list.toArray.size - (q+1)<(F ((k:Int)+1)).list.toArray.size - q by omega)⟩ ⟨rfl,trivial⟩ ⟨rfl,trivial⟩ (kE7 rfl rfl rfl rfl rfl rfl rfl trivial) (kL7 rfl rfl rfl rfl rfl rfl rfl trivial)))))
 refine dE rfl (TC.region (xmv rfl (xms rfl (TL.bsN 8 [_] (encS ⟨a8,(F ((k:Int)+1)).list.toArray.size,c8⟩) zbG zqS ⟨rfl,trivial⟩ rfl (lit1 rfl) rfl rfl (fun bk8=>⟨trivial,?_⟩)))))
 refine TL.appS 5 8 (d2:=#[⟨a8,(F ((k:Int)+1)).list.toArray.size,c8⟩]) rfl (rfl) rfl (fun _=>rfl) rfl rfl (row1 rfl) zoh (by decide) ziX (by simp; omega) rfl rfl (fun v9=>⟨trivial,?_⟩)
 refine TL.merge 6 7 (both IA _) (by decide) rfl rfl (fun h f g h1 h2 h3 h4=>zqg h f g h1 h2 h3 h4) trivial (xav rfl (dI (xmi rfl (TL.add _ rfl rfl (wr64 (by omega)) rfl rfl (xai rfl (TL.done (TQ.roundK ((k+1,_,_,Rs++#[F ((k:Int)+1)],_,D)) ⟨⟨⟨(show k+1≤xn by omega),hDz⟩,hR.push (t:=F ((k:Int)+1)) hsz8 hc8 ha8 ((zab ha8).congr fun q hq=>by simp),hRt.push hF hnk hlk hpk,by rw [List.take_of_length_le (by omega)] at hSe; have:=zd7.row hSe rfl; simpa using this⟩,(show xn - (k+1)<xn - k by omega)⟩ ⟨rfl,rfl,trivial⟩ ⟨rfl,rfl,rfl,trivial⟩ (kE4 rfl rfl rfl rfl trivial) (kL4 rfl rfl rfl rfl trivial))))))))
 refine dE rfl (sB (xai rfl (dK (TC.loopK (X:=Nat) [1,6,7,8] [0,1,2,3,4,5,6] (fun j=>[(13,.int .i64 ((j:Nat):Int))]) (fun j=>[]) (fun j=>j≤xn) (fun j=>xn - j) (0) (Nat.zero_le _) ⟨rfl,trivial⟩ trivial (fun j hI=>(TC.sub (env':=[(13,_),(1,_),(6,_),(7,_),(8,_)]) (L':=[(0,_),(1,_),(2,_),(3,_),(4,_),(5,_),(6,_)]) ⟨rfl,rfl,rfl,rfl,rfl,trivial⟩ ⟨rfl,rfl,rfl,rfl,rfl,rfl,rfl,trivial⟩ (sB (xmi rfl (xms rfl ?_)))))))))
 refine xz zaf rfl (TL.lss rfl rfl rfl rfl (fun q2=>?_) (fun q2=>?_))
 refine TL.done (TQ.then (TC.condT rfl (TC.skip (TQ.then (TC.seq (TC.block (TC.seq ?_)))))))
 have hnm:=hB.hfx j (by omega)
 have hnj:l.nd ((j:Int)+1):=⟨by omega,by omega⟩
 refine TC.region (xms rfl (xmi rfl (TL.iaO rfl hB.hx rfl zaf (by omega) rfl rfl (TL.ldRx 2 [_,_,_,_] rfl rfl hB.hX (by omega) rfl zaG rfl rfl (TL.callD [] [] zhM ⟨rfl,trivial⟩ trivial zid rfl rfl rfl rfl rfl trivial ?_)))))
 rw [hnm.level hl]
 refine xmi rfl (TL.eql rfl rfl rfl rfl (fun q3=>?_) (fun q3=>?_))
 refine xmt rfl (xms rfl (xmi rfl (TL.add (((j+1:Nat):Int)) rfl rfl (wrN (by omega)) rfl rfl (TL.iaO rfl (fun _=>rfl) rfl zae (by omega) rfl rfl (TL.ldRS 4 (.int _ _) rfl rfl (zcM (by first | omega | (simp; omega))) (by omega) (rfl) zaa rfl rfl (TL.neqF rfl rfl (by have:=hSe (j+1) (by omega); rw [if_pos (.inl (by obtain ⟨r,r1,r2⟩:=(show Rts l σ F i Rs xn from (by have e:k=xn:=(by omega); rw [←e]; exact hRt)).all hF hxn hlv hnj (by omega); exact ⟨r,by omega,by rw [r2]; exact hF.mem _ hnj⟩))] at this; omega) rfl rfl (xpG rfl (TL.done ?_))))))))
 refine TQ.then (TC.condF rfl (TC.skip (TQ.inBlock (TQ.then (TC.region (xmi rfl (TL.add _ rfl rfl (wr64 (by omega)) rfl rfl (xai rfl ?_))))))))
 refine TL.done (TQ.roundK (j+1) ⟨by omega,by omega⟩ ⟨rfl,trivial⟩ trivial (kE4 rfl rfl rfl rfl trivial) (kL7 rfl rfl rfl rfl rfl rfl rfl trivial))
 refine xmf rfl (xo rfl (xo rfl (xo rfl (xo rfl (xo rfl (xo rfl (xpF rfl (TL.done ?_))))))))
 refine TQ.then (TC.condF rfl (TC.skip (TQ.inBlock (TQ.then (TC.region (xmi rfl (TL.add _ rfl rfl (wr64 (by omega)) rfl rfl (xai rfl ?_))))))))
 refine TL.done (TQ.roundK (j+1) ⟨by omega,by omega⟩ ⟨rfl,trivial⟩ trivial (kE4 rfl rfl rfl rfl trivial) (kL7 rfl rfl rfl rfl rfl rfl rfl trivial))
 refine dE rfl (sA (xmv rfl (xav rfl (xat rfl (dR ?_)))))
 refine FQ.ret2 (v:=_) (x:=(.bool true)) (Bs:=[_,_,_,_,_]) [0,1,2,5,6] rfl rfl rfl rfl ⟨rfl,rfl,rfl,rfl,rfl,trivial⟩ ?_
 obtain rfl:k=xn:=by omega
 exact ⟨_,W,Rs,IA,rfl,rfl,hR,hRt⟩
set_option maxHeartbeats 2000000 in
theorem znp {l:Lay} (hl:l.Ok) {σ:M} {nv:Value} {ca xa:Option Addr} {mr bc offc cn cc bx offx xn xc:Nat} {Acl Ax:Assn} {fc:Nat→Int} {fx:Nat→Nm} {ps:List (Nm×Nat)} (hB:BookOk l σ ca bc offc cn Acl fc xa bx offx xn Ax fx ps) {pr mk:Int→Int} {F:Int→T} (hF:Forest l pr mk σ F) (hlv:∀ x,l.nd x→∀ y∈(F x).list,(l.node y).1.level=(l.node x).1.level) {ka:Option Addr} {bk nk ck:Nat} {Amk:Assn} {fk:Nat→Int} (hka:0<nk→ka=some ⟨bk,0,none⟩) (hkA:zaW Amk encI 1 bk 0 nk fk) (hkn:(nk:Int)=l.nodes+1) (hkv:∀ x,l.nd x→fk x.toNat=mk x) {wa:Option Addr} {bw wn wc:Nat} {Arw IA:Assn} {W:Array SlV} {Rs:Array T} (hwa:0<wn→wa=some ⟨bw,0,none⟩) (hwA:zaW Arw encS 1 bw 0 wn (fun j=>W[j]!)) (hwn:wn=W.size) (hR:RsOk IA W Rs) {i:Int} (hRt:Rts l σ F i Rs xn)  : FnD Tryz.prog 73 [.agg #[.int .i64 l.V,.int .i64 l.S,.int .i64 l.T,nv,.slice ca cn cc,.map (some mr),.slice xa xn xc],.slice wa wn wc,.int .i64 i,.slice ka nk ck] [Acl,mapA mr nmV natV ps,Ax,Arw,IA,Amk] (.bool true) [Acl,mapA mr nmV natV ps,Ax,Arw,IA,Amk]:=by
 have hcn:=hB.hcn
 have hxn:=hB.hxn
 have hnb:=zaz hl
 have hcb:=zaO hl
 have hle:=hRt.le hF
 have hwz:=hR.size
 refine Fn.enter (Tryz.func73) rfl rfl (fun w0 R=>?_)
 refine sA (xB 6 rfl (fun bk6=>(xaf rfl (dA (xf 6 zby rfl (xls 6 za1 rfl rfl (xas rfl (dA (xms rfl ?_)))))))))
 refine xms rfl (TL.bld [.slice none 0 0,.slice none 0 0,.slice none 0 0,.slice none 0 0] [(.slice _ _ _),(.slice _ _ _)] [_,_,_,_] zmB zpQ ⟨rfl,rfl,trivial⟩ ⟨rfl,rfl⟩ rfl rfl (TL.alloc 7 (cs:=#[.slice none 0 0,.slice none 0 0,.slice none 0 0,.slice none 0 0]) zmB rfl rfl rfl (fun _=>trivial) (fun bk7=>(TL.stW 7 4 [_,_,_,_] rfl rfl rfl rfl rfl rfl zdr rfl rfl trivial (dS (TC.nilA 8 (A:=ownA encU 1 110 (.slice none 0 0) #[]) (.inl ⟨rfl,rfl⟩) (TC.nilA 9 (A:=ownA encB 1 4 (.slice none 0 0) #[]) (.inl ⟨rfl,rfl⟩) (TC.region (xf 1 zb0 rfl ?_)))))))))
 refine xlv 7 zbB rfl rfl (TL.bsN 10 [_] (encU 0) zax zh3 ⟨rfl,trivial⟩ rfl (lit1 rfl) rfl rfl (fun bk10=>⟨trivial,?_⟩))
 refine TL.appS 8 10 (d2:=#[0]) rfl (rfl) rfl (fun _=>rfl) rfl rfl (row1 rfl) zik (by decide) zdc (by decide) rfl rfl (fun v11=>⟨trivial,?_⟩)
 refine TL.ownW 8 rfl (fun a3 g3 c3 hv3 _ _=>?_)
 subst hv3
 refine xf 1 zb0 rfl (TL.st 7 #[_,_,_,_] _ rfl rfl rfl rfl rfl rfl zbB rfl rfl trivial (dA (xf 3 zc2 rfl (xlv 7 zgz rfl rfl (TL.bsN 12 [_] (encB false) zeN zqW ⟨rfl,trivial⟩ rfl (lit1 rfl) rfl rfl (fun bk12=>⟨trivial,?_⟩))))))
 refine TL.appS 9 12 (d2:=#[false]) rfl (rfl) rfl (fun _=>rfl) rfl rfl (row1 rfl) zkG (by decide) zgB (by decide) rfl rfl (fun v13=>⟨trivial,?_⟩)
 refine TL.ownW 9 rfl (fun a4 g4 c4 hv4 _ _=>?_)
 subst hv4
 refine xf 3 zc2 rfl (TL.st 7 #[_,_,_,_] _ rfl rfl rfl rfl rfl rfl zgz rfl rfl trivial (dB (xai rfl (dK (TC.loopK (X:=Nat×Value×Value×Array Int×Array Bool) [2,4,8,9,10] [0,1,2,3,4,5,6] (fun ⟨k,w1,w2,P,B⟩=>[(11,.int .i64 ((k:Nat):Int))]) (fun ⟨k,w1,w2,P,B⟩=>[(7,pt bk7 (.cells #[.slice wa wn wc,w1,.slice ka nk ck,w2] 165)),(8,ownA encU 1 110 w1 P),(9,ownA encB 1 4 w2 B)]) (fun ⟨k,w1,w2,P,B⟩=>k≤xn∧CelI l pr k P B) (fun ⟨k,w1,w2,P,B⟩=>xn - k) ((0,_,_,#[0],#[false])) ⟨Nat.zero_le _,CelI.start⟩ ⟨rfl,trivial⟩ ⟨rfl,rfl,rfl,trivial⟩ (fun y hI=>?_))))))
 obtain ⟨k,w1,w2,P,B⟩:=y
 obtain ⟨hk,hC⟩:=hI
 replace hk:k≤xn:=hk
 replace hC:CelI l pr k P B:=hC
 refine TC.sub (env':=[(11,_),(2,_),(4,_),(8,_),(9,_),(10,_)]) (L':=[(7,_),(8,_),(9,_),(0,_),(1,_),(2,_),(3,_),(4,_),(5,_),(6,_)]) ⟨rfl,rfl,rfl,rfl,rfl,rfl,trivial⟩ ⟨rfl,rfl,rfl,rfl,rfl,rfl,rfl,rfl,rfl,rfl,trivial⟩ (sB (xmi rfl (xms rfl (xz zaf rfl (TL.lss rfl rfl rfl rfl (fun q1=>?_) (fun q1=>?_))))))
 refine TL.done (TQ.then (TC.condT rfl (TC.skip (TQ.then (TC.seq (TC.block (TC.seq ?_)))))))
 have hnk:l.nd ((k:Int)+1):=⟨by omega,by omega⟩
 have hPz:=hC.a
 have hVz:=hC.b
 refine TC.draw2 [(0,true),(1,true),(2,true),(3,true),(4,true),(5,false),(6,false),(7,false),(8,true)] 9 [] [6,7] fc_m (by kernel_rfl) (xf 1 zb0 rfl (xlv 7 zbB rfl rfl (xL7 6 zai rfl rfl (xmi rfl (TL.add _ rfl rfl (wr64 (by omega)) rfl rfl (TL.callD [0,1,2] [0,1,2] (zdh hl hB) ⟨rfl,rfl,rfl,rfl,trivial⟩ ⟨rfl,rfl,rfl,trivial⟩ zdd rfl rfl rfl rfl rfl (kL2 rfl rfl trivial) ?_))))))
 rw [zgU hl hnk (by decide),hF.pri _ hnk]
 refine TL.bsN 14 [_] (encU (pr ((k:Int)+1))) zax zh3 ⟨rfl,trivial⟩ rfl (lit1 rfl) rfl rfl (fun bk14=>⟨(kL2 rfl rfl trivial),?_⟩)
 refine TL.appS 8 14 (d2:=#[pr ((k:Int)+1)]) rfl (rfl) rfl (fun _=>rfl) rfl rfl (row1 rfl) zik (by decide) zdc (by simp; omega) rfl rfl (fun v15=>⟨(kL2 rfl rfl trivial),?_⟩)
 refine TL.ownW 8 rfl (fun a3 g3 c3 hv3 _ _=>?_)
 subst hv3
 refine xf 1 zb0 rfl (TL.late (TL.st 7 #[_,_,_,_] _ rfl rfl rfl rfl rfl rfl zbB rfl rfl trivial (TL.done (TQ.then (TC.draw2 [(0,true),(1,true),(2,true),(3,true),(4,true),(5,true),(6,true),(7,true),(8,false),(9,false),(10,true)] 11 [] [2,7] fc_m (by kernel_rfl) (xf 3 zc2 rfl (xlv 7 zgz rfl rfl (xms rfl ?_))))))))
 refine xmi rfl (TL.iaO rfl hB.hx rfl zaf (by omega) rfl rfl (xf 0 zcw rfl (TL.ldRF 2 (.int _ _) rfl rfl hB.hX (by omega) (zeS _).1 rfl zaa rfl rfl (TL.eqlV rfl rfl rfl rfl (TL.bsN 16 [_] (encB (decide ((fx k).k=1))) zeN zqW ⟨rfl,trivial⟩ rfl (lit1 rfl) rfl rfl (fun bk16=>⟨(kL2 rfl rfl trivial),?_⟩))))))
 refine TL.appS 9 16 (d2:=#[decide ((fx k).k=1)]) rfl (rfl) rfl (fun _=>rfl) rfl rfl (row1 rfl) zkG (by decide) zgB (by simp; omega) rfl rfl (fun v17=>⟨(kL2 rfl rfl trivial),?_⟩)
 refine TL.ownW 9 rfl (fun a4 g4 c4 hv4 _ _=>?_)
 subst hv4
 refine xf 3 zc2 rfl (TL.late (TL.st 7 #[_,_,_,_] _ rfl rfl rfl rfl rfl rfl zgz rfl rfl trivial (dI (xmi rfl (TL.add (((k+1:Nat):Int)) rfl rfl (wrN (by omega)) rfl rfl (xai rfl (TL.done (TQ.roundK ((k+1,_,_,_,_)) ⟨⟨(show k+1≤xn by omega),hC.push rfl (by have:=(hB.hfx k (by omega)).vert hl; cases hh:(l.node ((k:Int)+1)).1.arc<;>simp [this,hh])⟩,(show xn - (k+1)<xn - k by omega)⟩ ⟨rfl,trivial⟩ ⟨rfl,rfl,rfl,trivial⟩ (kE5 rfl rfl rfl rfl rfl trivial) (kL7 rfl rfl rfl rfl rfl rfl rfl trivial)))))))))
 refine dE rfl (TC.seq ?_)
 have hPz:=hC.a
 have hVz:=hC.b
 refine TC.ownW 8 rfl (fun a1 g1 c1 hv1 hc1 ha1=>?_)
 cases hv1
 refine TC.ownW 9 rfl (fun a2 g2 c2 hv2 hc2 ha2=>?_)
 cases hv2
 refine TC.region (xL4 7 zdr rfl rfl ?_)
 have h9:F9 l mk pr a1 g1 P.size (ownA encU 1 110 (.slice a1 P.size c1) P) (fun j=>P[j]!) ka bk nk Amk fk a2 g2 B.size (ownA encB 1 4 (.slice a2 B.size c2) B) (fun j=>B[j]!):=⟨ha1,zab ha1,by omega,fun x hx=>(hC.pv x.toNat (by have:=hx.1; omega) (by have:=hx.2; omega)).trans (by rw [Int.toNat_of_nonneg (by have:=hx.1; omega)]),hka,hkA,hkn,hkv,ha2,zab ha2,by omega,fun x hx=>(hC.vv x.toNat (by have:=hx.1; omega) (by have:=hx.2; omega)).trans (by rw [Int.toNat_of_nonneg (by have:=hx.1; omega)])⟩
 refine TL.call [8,5,9,3,4] [8,5,9,3,4,18] (zma hl h9 hwa hwA hwn hR (by omega) hF.mkk (fun j hj=>by obtain ⟨x,b1,b2,b3,b4,b5,b6,b7,b8,b9⟩:=hRt.tree hl hF hj; exact ⟨b6,b4.nd,b7⟩)) ⟨rfl,trivial⟩ ⟨rfl,rfl,rfl,rfl,rfl,trivial⟩ zp7 rfl rfl rfl rfl ?_
 rintro x5 Bs rfl
 refine ⟨rfl,trivial,?_⟩
 obtain ⟨D,hDD⟩:∃ D,wR l mk Rs Rs.size (Array.replicate P.size ⟨0,0,0,0,0,0,0⟩)=D:=⟨_,rfl⟩
 rw [hDD]
 have hDz:D.size=P.size:=by rw [←hDD,zhx]; simp
 refine TL.ownW 18 rfl (fun a5 g5 c5 hv5 hc5 ha5=>?_)
 subst hv5
 refine xas rfl (dB (xai rfl (dK (TC.loopK (X:=Nat) [2,4,9,12] [0,1,2,3,4,5,6,7,8,9,18] (fun j=>[(13,.int .i64 ((j:Nat):Int))]) (fun j=>[]) (fun j=>j≤xn) (fun j=>xn - j) (0) (Nat.zero_le _) ⟨rfl,trivial⟩ trivial (fun j hI=>(TC.sub (env':=[(13,_),(2,_),(4,_),(9,_),(12,_)]) (L':=[(0,_),(1,_),(2,_),(3,_),(4,_),(5,_),(6,_),(7,_),(8,_),(9,_),(18,_)]) ⟨rfl,rfl,rfl,rfl,rfl,trivial⟩ ⟨rfl,rfl,rfl,rfl,rfl,rfl,rfl,rfl,rfl,rfl,rfl,trivial⟩ (sB (xmi rfl (xms rfl ?_)))))))))
 refine xz zaf rfl (TL.lss rfl rfl rfl rfl (fun q2=>?_) (fun q2=>?_))
 refine TL.done (TQ.then (TC.condT rfl (TC.skip (TQ.then (TC.seq (TC.block (sB (xms rfl ?_))))))))
 refine xmi rfl (TL.iaO rfl hB.hx rfl zaf (by omega) rfl rfl (TL.ldRx 2 [_,_,_,_] rfl rfl hB.hX (by omega) rfl zaG rfl rfl (TL.callD [] [] zhM ⟨rfl,trivial⟩ trivial zid rfl rfl rfl rfl rfl trivial ?_)))
 rw [(hB.hfx j (by omega)).level hl]
 refine xmi rfl (TL.neq rfl rfl rfl rfl (fun q3=>?_) (fun q3=>?_))
 refine TL.done (TQ.then (TC.condT rfl (TC.exit (TQ.thenExit (TQ.blockHere (TQ.then (TC.region (xmi rfl ?_))))))))
 refine TL.add (((j+1:Nat):Int)) rfl rfl (wrN (by omega)) rfl rfl (xai rfl (TL.done (TQ.roundK (j+1) ⟨by omega,by omega⟩ ⟨rfl,trivial⟩ trivial (kE4 rfl rfl rfl rfl trivial) (kL8 rfl rfl rfl rfl rfl rfl rfl rfl (kL3 rfl rfl rfl trivial)))))
 refine TL.done (TQ.then (TC.condF rfl (TC.skip (TQ.then (TC.seq ?_)))))
 have hnj:l.nd ((j:Int)+1):=⟨by omega,by omega⟩
 obtain ⟨r,r1,r2⟩:=hRt.all hF hxn hlv hnj (by omega)
 have hnd:NdOk l σ ((j:Int)+1) D[j+1]!:=by rw [←hDD]; exact zqs hl hF hRt (by simp; omega) Rs.size (Nat.le_refl _) r r1 _ (by rw [r2]; exact hF.mem _ hnj)
 obtain ⟨n1,n2⟩:=(hF.rep _ hnj).lnk hl _ (hF.mem _ hnj)
 have n3:=n1.1
 have n4:=n1.2
 have n5:=n2.1
 have n6:=n2.2
 have hd1:=hnd.hp
 have hd2:=hnd.hl
 have hd3:=hnd.hr
 have hd4:=hnd.ok
 have hd5:=hnd.sum
 refine TC.region (xms rfl (xmi rfl (TL.add (((j+1:Nat):Int)) rfl rfl (wrN (by omega)) rfl rfl (TL.iaO rfl ha5 rfl zfl (by omega) rfl rfl (TL.ldRx 18 [_,_,_,_,_,_,_] rfl rfl (zab ha5) (by omega) rfl zdq rfl rfl (TL.alloc 19 (cs:=#[.int .i64 0,.int .i64 0,.int .i64 0,.int .i64 0,.int .i64 0,.int .i64 0,.int .i64 0]) zh2 rfl rfl rfl (fun _=>trivial) (fun bk19=>(TL.stW 19 7 [_,_,_,_,_,_,_] rfl rfl rfl rfl rfl rfl zdq rfl rfl trivial (dS ?_)))))))))
 refine TC.draw [(0,true),(1,true),(2,true),(5,true),(6,true),(3,false),(4,true),(7,true),(8,true),(9,true),(10,true),(11,true),(14,true),(15,true),(12,false),(13,true),(16,true),(17,true),(18,true),(19,true),(20,true),(21,true),(22,true),(24,true),(25,true),(23,false),(26,true),(27,true),(28,true),(29,true),(30,true),(31,true),(33,true),(32,false),(34,false),(35,true),(36,true)] [6,19] fc_m (by kernel_rfl) (xL7 6 zai rfl rfl (xmi rfl (TL.add _ rfl rfl (wr64 (by omega)) rfl rfl (xf 1 zgD rfl (xli 19 zaa rfl rfl ?_)))))
 refine TL.callD [0,1,2] [0,1,2] (zdh hl hB) ⟨rfl,rfl,rfl,rfl,trivial⟩ ⟨rfl,rfl,rfl,trivial⟩ zdd rfl rfl rfl rfl rfl (kL2 rfl rfl trivial) ?_
 rw [zgU hl hnj (by decide)]
 refine TL.conv _ rfl zbb zaI (wr64 (by omega)) rfl rfl (TL.neqF rfl rfl (by omega) rfl rfl (xmf rfl (xL7 6 zai rfl rfl (xmi rfl (TL.add _ rfl rfl (wr64 (by omega)) rfl rfl (xf 2 zgC rfl (xli 19 zaa rfl rfl (TL.callD [0,1,2] [0,1,2] (zdh hl hB) ⟨rfl,rfl,rfl,rfl,trivial⟩ ⟨rfl,rfl,rfl,trivial⟩ zdd rfl rfl rfl rfl rfl (kL2 rfl rfl trivial) ?_))))))))
 rw [zgU hl hnj (by decide)]
 refine TL.conv _ rfl zbb zaI (wr64 (by omega)) rfl rfl (TL.neqF rfl rfl (by omega) rfl rfl (xpF rfl (xmf rfl (xL7 6 zai rfl rfl (xmi rfl (TL.add _ rfl rfl (wr64 (by omega)) rfl rfl (xmi rfl (xf 0 zjL rfl ?_))))))))
 refine xli 19 zaa rfl rfl (TL.callD [0,1,2] [0,1,2] (zhr hl hB hF hnj (by omega)) ⟨rfl,rfl,rfl,trivial⟩ ⟨rfl,rfl,rfl,trivial⟩ zm3 rfl rfl rfl rfl rfl (kL2 rfl rfl trivial) (TL.neqF rfl rfl (by omega) rfl rfl (xpF rfl (xmf rfl (xL7 6 zai rfl rfl (xmi rfl (TL.add _ rfl rfl (wr64 (by omega)) rfl rfl (xL7 19 zdq rfl rfl ?_))))))))
 refine TL.callD [0,1,2] [0,1,2] (zdh hl hB) ⟨rfl,rfl,rfl,rfl,trivial⟩ ⟨rfl,rfl,rfl,trivial⟩ zdd rfl rfl rfl rfl rfl (kL2 rfl rfl trivial) ?_
 rw [zgU hl hnj (by decide)]
 refine TL.callD [] [] (zpk hd4) ⟨rfl,trivial⟩ trivial zp6 rfl rfl rfl rfl rfl (kL2 rfl rfl trivial) (TL.neqF rfl rfl (by omega) rfl rfl (xpF rfl (TL.done (TQ.then (TC.condF rfl (TC.skip (TQ.inBlock (TQ.then ?_))))))))
 refine TC.region (xmi rfl (TL.add (((j+1:Nat):Int)) rfl rfl (wrN (by omega)) rfl rfl (xai rfl (TL.done (TQ.roundK (j+1) ⟨by omega,by omega⟩ ⟨rfl,trivial⟩ trivial (kE4 rfl rfl rfl rfl trivial) (kL8 rfl rfl rfl rfl rfl rfl rfl rfl (kL3 rfl rfl rfl trivial)))))))
 refine dE rfl (sA (xat rfl (dR ?_)))
 refine FQ.ret1 (v:=(.bool true)) (Bs:=[_,_,_,_,_,_]) [0,1,2,3,4,5] rfl rfl rfl ⟨rfl,rfl,rfl,rfl,rfl,rfl,trivial⟩ ?_
 exact ⟨rfl,rfl⟩
set_option maxHeartbeats 1000000 in
theorem zol {ra:Option Addr} {rb roff rn rc:Nat} {Ar:Assn} {f:Nat→Int} {r:List Int} {x y:Int} (hra:0<rn→ra=some ⟨rb,roff,none⟩) (hrA:zaW Ar encI 1 rb roff rn f) (hrn:rn=r.length) (hf:∀ j,j<rn→f j=r[j]!) (hr6:rn≤600)  : Go.Eng.Fn Tryz.prog 144 [.slice ra rn rc,.int .i64 x,.int .i64 y] [Ar] (fun z Bs=>∃ v w,z=.tuple #[v,w]∧Bs=[Ar,ownA encI 1 3 v (cutW x y 0 r).1.toArray,ownA encI 1 3 w (cutW x y 0 r).2.toArray]):=by
 refine Fn.enter (Tryz.func144) rfl rfl (fun w0 R=>?_)
 refine sA (TL.asg (.slice none 0 0) rfl rfl rfl (TL.asg (.slice none 0 0) rfl rfl rfl (dA (TL.asg (.slice none 0 0) rfl rfl rfl (TL.asg (.slice none 0 0) rfl rfl rfl (dS (TC.nilA 1 (A:=ownA encI 1 3 (.slice none 0 0) #[]) (.inl ⟨rfl,rfl⟩) (TC.nilA 2 (A:=ownA encI 1 3 (.slice none 0 0) #[]) (.inl ⟨rfl,rfl⟩) ?_))))))))
 refine TC.region (xai rfl (dB (xai rfl (dK (TC.loopK (X:=(Nat×Nat)×(Value×Value)×(List Int×List Int)) [0,1,2,6,7] [0] (fun ⟨⟨k,s⟩,⟨v,w⟩,⟨A,B⟩⟩=>[(11,.int .i64 ((k:Nat):Int)),(10,.int .i64 ((s:Nat):Int)),(8,v),(9,w)]) (fun ⟨⟨k,s⟩,⟨v,w⟩,⟨A,B⟩⟩=>[(1,ownA encI 1 3 v A.toArray),(2,ownA encI 1 3 w B.toArray)]) (fun ⟨⟨k,s⟩,⟨v,w⟩,⟨A,B⟩⟩=>k≤rn∧CutI x y r k s A B) (fun ⟨⟨k,s⟩,⟨v,w⟩,⟨A,B⟩⟩=>rn - k) (((0,0),(_,_),([],[]))) ⟨Nat.zero_le _,CutI.start⟩ ⟨rfl,rfl,rfl,rfl,trivial⟩ ⟨rfl,rfl,trivial⟩ (fun z hI=>?_))))))
 obtain ⟨⟨k,s⟩,⟨v,w⟩,⟨A,B⟩⟩:=z
 obtain ⟨hk,hC⟩:=hI
 replace hk:k≤rn:=hk
 replace hC:CutI x y r k s A B:=hC
 refine TC.sub (env':=[(11,_),(10,_),(8,_),(9,_),(0,_),(1,_),(2,_),(6,_),(7,_)]) (L':=[(1,_),(2,_),(0,_)]) ⟨rfl,rfl,rfl,rfl,rfl,rfl,rfl,rfl,rfl,trivial⟩ ⟨rfl,rfl,rfl,trivial⟩ (sB (xmi rfl (xms rfl (xz zae rfl (TL.lss rfl rfl rfl rfl (fun q1=>?_) (fun q1=>?_))))))
 refine TL.done (TQ.then (TC.condT rfl (TC.skip (TQ.then (TC.seq (TC.block (TC.seq (TC.seq ?_))))))))
 have hfk:=hf k (by omega)
 have hs:=hC.hs
 have hi6:=hC.hi
 have ho6:=hC.ho
 refine TC.region (xms rfl (xmi rfl (TL.iaO rfl hra rfl zae (by omega) rfl rfl (TL.ldRS 0 (.int _ _) rfl rfl hrA (by omega) (rfl) zaa rfl rfl (xmi rfl (TL.eql rfl rfl rfl rfl (fun q2=>?_) (fun q2=>?_)))))))
 refine xmt rfl (xo rfl (xo rfl (xo rfl (xo rfl (xo rfl (xo rfl (xpT rfl (dT rfl ?_))))))))
 refine xmi rfl (TL.add (((s+1:Nat):Int)) rfl rfl (wrN (by omega)) rfl rfl (xai rfl (TL.done (TQ.then (TC.exit (TQ.thenExit (TQ.blockHere (TQ.then ?_))))))))
 refine TC.region (xmi rfl (TL.add (((k+1:Nat):Int)) rfl rfl (wrN (by omega)) rfl rfl (xai rfl (TL.done (TQ.roundK (((k+1,s+1),(_,_),(A,B))) ⟨⟨(show k+1≤rn by omega),hC.arc (by omega) (by omega)⟩,(show rn - (k+1)<rn - k by omega)⟩ ⟨rfl,rfl,rfl,rfl,trivial⟩ ⟨rfl,rfl,trivial⟩ (kE5 rfl rfl rfl rfl rfl trivial) (kL1 rfl trivial))))))
 refine xmf rfl (xms rfl (xmi rfl (TL.iaO rfl hra rfl zae (by omega) rfl rfl (TL.ldRS 0 (.int _ _) rfl rfl hrA (by omega) (rfl) zaa rfl rfl (xmi rfl (TL.eql rfl rfl rfl rfl (fun q3=>?_) (fun q3=>?_)))))))
 refine xpH rfl (dT rfl (xmi rfl (TL.add (((s+1:Nat):Int)) rfl rfl (wrN (by omega)) rfl rfl (xai rfl (TL.done (TQ.then (TC.exit (TQ.thenExit ?_))))))))
 refine TQ.blockHere (TQ.then (TC.region (xmi rfl (TL.add (((k+1:Nat):Int)) rfl rfl (wrN (by omega)) rfl rfl (xai rfl (TL.done (TQ.roundK (((k+1,s+1),(_,_),(A,B))) ⟨⟨(show k+1≤rn by omega),hC.arc (by omega) (by omega)⟩,(show rn - (k+1)<rn - k by omega)⟩ ⟨rfl,rfl,rfl,rfl,trivial⟩ ⟨rfl,rfl,trivial⟩ (kE5 rfl rfl rfl rfl rfl trivial) (kL1 rfl trivial))))))))
 refine xpF rfl (dF rfl (xmi rfl (TL.eql rfl rfl rfl rfl (fun q4=>?_) (fun q4=>?_))))
 refine TL.done (TQ.then (TC.condT rfl (TC.region (xmv rfl (xms rfl (xmi rfl (TL.iaO rfl hra rfl zae (by omega) rfl rfl (TL.ldRS 0 (.int _ _) rfl rfl hrA (by omega) (rfl) zaa rfl rfl ?_))))))))
 refine TL.bsN 3 [_] (encI (f k)) zae zeL ⟨rfl,trivial⟩ rfl (lit1 rfl) rfl rfl (fun bk3=>⟨trivial,?_⟩)
 refine TL.appS 1 3 (d2:=#[f k]) rfl (rfl) rfl (fun _=>rfl) rfl rfl (row1 rfl) zci (by decide) za2 (by simp; omega) rfl rfl (fun v4=>⟨trivial,?_⟩)
 refine xav rfl (dI (xmi rfl (TL.add (((k+1:Nat):Int)) rfl rfl (wrN (by omega)) rfl rfl (xai rfl (TL.done (TQ.roundK (((k+1,s),(_,_),(A++[r[k]!],B))) ⟨⟨(show k+1≤rn by omega),hC.inner (by omega) (by omega) (by omega) (by assumption)⟩,(show rn - (k+1)<rn - k by omega)⟩ ⟨rfl,rfl,rfl,rfl,trivial⟩ ⟨congrArg (fun z=>some (ownA encI 1 3 _ z)) (by rw [hfk]; simp),rfl,trivial⟩ (kE5 rfl rfl rfl rfl rfl trivial) (kL1 rfl trivial)))))))
 refine TL.done (TQ.then (TC.condF rfl (TC.region (xmv rfl (xms rfl (xmi rfl (TL.iaO rfl hra rfl zae (by omega) rfl rfl (TL.ldRS 0 (.int _ _) rfl rfl hrA (by omega) (rfl) zaa rfl rfl ?_))))))))
 refine TL.bsN 5 [_] (encI (f k)) zae zeL ⟨rfl,trivial⟩ rfl (lit1 rfl) rfl rfl (fun bk5=>⟨trivial,?_⟩)
 refine TL.appS 2 5 (d2:=#[f k]) rfl (rfl) rfl (fun _=>rfl) rfl rfl (row1 rfl) zci (by decide) za2 (by simp; omega) rfl rfl (fun v6=>⟨trivial,?_⟩)
 refine xav rfl (dI (xmi rfl (TL.add (((k+1:Nat):Int)) rfl rfl (wrN (by omega)) rfl rfl (xai rfl (TL.done (TQ.roundK (((k+1,s),(_,_),(A,B++[r[k]!]))) ⟨⟨(show k+1≤rn by omega),hC.outer (by omega) (by omega) (by omega) (by assumption)⟩,(show rn - (k+1)<rn - k by omega)⟩ ⟨rfl,rfl,rfl,rfl,trivial⟩ ⟨rfl,congrArg (fun z=>some (ownA encI 1 3 _ z)) (by rw [hfk]; simp),trivial⟩ (kE5 rfl rfl rfl rfl rfl trivial) (kL1 rfl trivial)))))))
 refine dE rfl (sA (xmv rfl (xmv rfl (xav rfl (xav rfl (dR ?_))))))
 refine FQ.ret2 (v:=_) (x:=_) (Bs:=[_,_,_]) [0,1,2] rfl rfl rfl rfl ⟨rfl,rfl,rfl,trivial⟩ ?_
 have he:=hC.end (by omega)
 exact ⟨_,_,rfl,by rw [he]⟩
set_option maxHeartbeats 1000000 in
theorem zkN {l:Lay} (hl:l.Ok) {σ:M} {nv:Value} {ca xa:Option Addr} {mr bc offc cn cc bx offx xn xc:Nat} {Acl Ax:Assn} {fc:Nat→Int} {fx:Nat→Nm} {ps:List (Nm×Nat)} (hB:BookOk l σ ca bc offc cn Acl fc xa bx offx xn Ax fx ps) {qa:Option Addr} {qb qoff qn qc:Nat} {Aq:Assn} {p:Nat→Int} (hqa:0<qn→qa=some ⟨qb,qoff,none⟩) (hqA:zaW Aq encI 1 qb qoff qn p) (hq6:qn≤600) {ga:Option Addr} {gb gn gc:Nat} {Ag:Assn} {fg:Nat→Int×Int} (hga:0<gn→ga=some ⟨gb,0,none⟩) (hgA:zaW Ag encP 2 gb 0 gn fg) {a0 a1 c:Int} (hgz:gn≤400) (hc:c=0∨c=1) (hp:∀ j,j<qn→l.nd (p j)) (hs:∀ j,j<qn→(l.node (p j)).1.arc=false→zcY fg gn (l.node (p j)).1.vertex a0=decide (c=0)∧(c=0→zcY fg gn (l.node (p j)).1.vertex a0=true)∧(¬c=0→zcY fg gn (l.node (p j)).1.vertex a1=true)) (he:∃ j,j<qn∧(l.node (p j)).1.arc=false)  : FnD Tryz.prog 145 [.agg #[.int .i64 l.V,.int .i64 l.S,.int .i64 l.T,nv,.slice ca cn cc,.map (some mr),.slice xa xn xc],.slice qa qn qc,.slice ga gn gc,.agg #[.int .i64 a0,.int .i64 a1]] [Acl,mapA mr nmV natV ps,Ax,Aq,Ag] (.int .i64 c) [Acl,mapA mr nmV natV ps,Ax,Aq,Ag]:=by
 have hcn:=hB.hcn
 have hxn:=hB.hxn
 have hnb:=zaz hl
 have hcb:=zaO hl
 refine Fn.enter (Tryz.func145) rfl rfl (fun w0 R=>?_)
 refine sA (xB 5 rfl (fun bk5=>(xB 6 rfl (fun bk6=>(xai rfl (dA (xf 6 zby rfl (xls 5 za1 rfl rfl (xas rfl (dA ?_))))))))))
 refine xai rfl (dB (xai rfl (dK (TC.loopK (X:=Nat×Int) [1,2,7,9] [0,1,2,3,4,5,6] (fun ⟨k,o⟩=>[(11,.int .i64 ((k:Nat):Int)),(10,.int .i64 o)]) (fun ⟨k,o⟩=>[]) (fun ⟨k,o⟩=>k≤qn∧((o=-1∧∀ j,j<k→(l.node (p j)).1.arc=true)∨o=c)) (fun ⟨k,o⟩=>qn - k) ((0,-1)) ⟨Nat.zero_le _,.inl ⟨rfl,fun j hj=>absurd hj (Nat.not_lt_zero _)⟩⟩ ⟨rfl,rfl,trivial⟩ trivial (fun y hI=>?_)))))
 obtain ⟨k,o⟩:=y
 obtain ⟨hk,hO⟩:=hI
 replace hk:k≤qn:=hk
 replace hO:(o=-1∧∀ j,j<k→(l.node (p j)).1.arc=true)∨o=c:=hO
 refine TC.sub (env':=[(11,_),(10,_),(1,_),(2,_),(7,_),(9,_)]) (L':=[(0,_),(1,_),(2,_),(3,_),(4,_),(5,_),(6,_)]) ⟨rfl,rfl,rfl,rfl,rfl,rfl,trivial⟩ ⟨rfl,rfl,rfl,rfl,rfl,rfl,rfl,trivial⟩ (sB (xmi rfl (xms rfl (xz zae rfl (TL.lss rfl rfl rfl rfl (fun q1=>?_) (fun q1=>?_))))))
 refine TL.done (TQ.then (TC.condT rfl (TC.skip (TQ.then (TC.seq (TC.block (TC.seq ?_)))))))
 have hnz:=hp k (by omega)
 obtain ⟨z,hz⟩:=Int.eq_ofNat_of_zero_le (show (0:Int)≤p k from by have:=hnz; have:=this.1; omega)
 have hs9:=hs k (by omega)
 rw [hz] at hnz hs9
 have hnz1:=hnz.1
 have hnz2:=hnz.2
 have hfz:=hB.hfx (z - 1) (by omega)
 rw [show (((z - 1:Nat):Int)+1)=(z:Int) by omega] at hfz
 refine TC.region (xms rfl (xms rfl (xmi rfl (TL.iaO rfl hqa rfl zae (by omega) rfl rfl (TL.ldRS 3 (.int .i64 (z:Int)) rfl rfl hqA (by omega) (by rw [hz]; rfl) zaa rfl rfl (TL.sub (((z - 1:Nat):Int)) rfl rfl (wrN (by omega)) rfl rfl (TL.iaO rfl hB.hx rfl zaf (by omega) rfl rfl (TL.ldRx 2 [_,_,_,_] rfl rfl hB.hX (by omega) rfl zaG rfl rfl ?_))))))))
 refine TL.alloc 7 (cs:=#[.int .i64 0,.int .i64 0,.int .i64 0,.int .i64 0]) zaK rfl rfl rfl (fun _=>trivial) (fun bk7=>(TL.stW 7 4 [_,_,_,_] rfl rfl rfl rfl rfl rfl zaG rfl rfl trivial (dB (xf 0 zcw rfl (xli 7 zaa rfl rfl (TL.neq rfl rfl rfl rfl (fun q2=>?_) (fun q2=>?_)))))))
 refine TL.done (TQ.then (TC.condT rfl (TC.exit (TQ.thenExit (TQ.blockHere (TQ.then (TC.region (xmi rfl ?_))))))))
 refine TL.add (((k+1:Nat):Int)) rfl rfl (wrN (by omega)) rfl rfl (xai rfl (TL.done (TQ.roundK ((k+1,o)) ⟨⟨(show k+1≤qn by omega),hO.imp (fun h=>⟨h.1,fun j hj=>if e:j=k then (by subst e; rw [hz]; exact (hfz.arcs hl (by omega)).2.2.2) else h.2 j (by omega)⟩) id⟩,(show qn - (k+1)<qn - k by omega)⟩ ⟨rfl,rfl,trivial⟩ trivial (kE4 rfl rfl rfl rfl trivial) (kL7 rfl rfl rfl rfl rfl rfl rfl trivial))))
 refine dF rfl (xai rfl (dS (TC.seq ?_)))
 obtain ⟨hb,har⟩:=hfz.vtx hl (by omega)
 rw [←hb] at hs9
 obtain ⟨j0,j1,j2⟩:=hs9 har
 refine TC.region (xms rfl (xf 2 zc3 rfl (xli 7 zaa rfl rfl (TL.iaA (_+0) rfl rfl zaQ (by decide) (by decide) rfl rfl rfl (xli 6 zaa rfl rfl (TL.callD [4] [4] (zeh hga hgA hgz) ⟨rfl,rfl,rfl,trivial⟩ ⟨rfl,trivial⟩ zhm rfl rfl rfl rfl rfl trivial ?_))))))
 rw [j0]
 refine TL.casesP rfl (fun q3=>?_) (fun q3=>?_)
 refine xnt rfl (TL.done (TQ.then (TC.condF rfl (TC.skip (TQ.then (TC.seq (TC.seq (TC.draw [(0,true),(1,true),(2,true),(3,true),(4,true),(5,true),(6,false),(7,true),(8,true),(9,true),(10,true),(11,true),(12,true),(13,true),(14,true),(15,true),(16,true)] [6,7] fc_m (by kernel_rfl) ?_))))))))
 refine xms rfl (xf 2 zc3 rfl (xli 7 zaa rfl rfl (xmi rfl (TL.iaA (_+0) rfl rfl zaQ (by decide) (by decide) rfl rfl rfl (xli 6 zaa rfl rfl (TL.callD [4] [4] (zeh hga hgA hgz) ⟨rfl,rfl,rfl,trivial⟩ ⟨rfl,trivial⟩ zhm rfl rfl rfl rfl rfl (kL2 rfl rfl trivial) ?_))))))
 rw [j1 (by assumption)]
 refine xnt rfl (xmf rfl (xmi rfl (TL.geq rfl rfl rfl rfl (fun q4=>?_) (fun q4=>?_))))
 refine xmt rfl (xmi rfl (xmi rfl (TL.neqF rfl rfl (by omega) rfl rfl (xpG rfl (xpF rfl (TL.done (TQ.then (TC.condF rfl ?_))))))))
 refine TC.skip (TQ.then (TC.region (xmi rfl (xai rfl (dI (xmi rfl (TL.add (((k+1:Nat):Int)) rfl rfl (wrN (by omega)) rfl rfl (xai rfl ?_))))))))
 refine TL.done (TQ.roundK ((k+1,c)) ⟨⟨(show k+1≤qn by omega),.inr rfl⟩,(show qn - (k+1)<qn - k by omega)⟩ ⟨rfl,congrArg (fun z:Int=>some (Value.int .i64 z)) (by omega),trivial⟩ trivial (kE4 rfl rfl rfl rfl trivial) (kL7 rfl rfl rfl rfl rfl rfl rfl trivial))
 refine xmf rfl (xo rfl (xo rfl (xo rfl (xpF rfl (xpF rfl (TL.done (TQ.then (TC.condF rfl ?_))))))))
 refine TC.skip (TQ.then (TC.region (xmi rfl (xai rfl (dI (xmi rfl (TL.add (((k+1:Nat):Int)) rfl rfl (wrN (by omega)) rfl rfl (xai rfl ?_))))))))
 refine TL.done (TQ.roundK ((k+1,c)) ⟨⟨(show k+1≤qn by omega),.inr rfl⟩,(show qn - (k+1)<qn - k by omega)⟩ ⟨rfl,congrArg (fun z:Int=>some (Value.int .i64 z)) (by omega),trivial⟩ trivial (kE4 rfl rfl rfl rfl trivial) (kL7 rfl rfl rfl rfl rfl rfl rfl trivial))
 refine xnf rfl (TL.done (TQ.then (TC.condT rfl (TC.region (xai rfl (dS (TC.seq (TC.draw [(0,true),(1,true),(2,true),(3,true),(4,true),(5,true),(6,false),(7,true),(8,true),(9,true),(10,true),(11,true),(12,true),(13,true),(14,true),(15,true),(16,true)] [6,7] fc_m (by kernel_rfl) ?_))))))))
 refine xms rfl (xf 2 zc3 rfl (xli 7 zaa rfl rfl (xmi rfl (TL.iaA (_+1) rfl rfl zaQ (by decide) (by decide) rfl rfl rfl (xli 6 zaa rfl rfl (TL.callD [4] [4] (zeh hga hgA hgz) ⟨rfl,rfl,rfl,trivial⟩ ⟨rfl,trivial⟩ zhm rfl rfl rfl rfl rfl (kL2 rfl rfl trivial) ?_))))))
 rw [j2 (by assumption)]
 refine xnt rfl (xmf rfl (xmi rfl (TL.geq rfl rfl rfl rfl (fun q4=>?_) (fun q4=>?_))))
 refine xmt rfl (xmi rfl (xmi rfl (TL.neqF rfl rfl (by omega) rfl rfl (xpG rfl (xpF rfl (TL.done (TQ.then (TC.condF rfl ?_))))))))
 refine TC.skip (TQ.then (TC.region (xmi rfl (xai rfl (dI (xmi rfl (TL.add (((k+1:Nat):Int)) rfl rfl (wrN (by omega)) rfl rfl (xai rfl ?_))))))))
 refine TL.done (TQ.roundK ((k+1,c)) ⟨⟨(show k+1≤qn by omega),.inr rfl⟩,(show qn - (k+1)<qn - k by omega)⟩ ⟨rfl,congrArg (fun z:Int=>some (Value.int .i64 z)) (by omega),trivial⟩ trivial (kE4 rfl rfl rfl rfl trivial) (kL7 rfl rfl rfl rfl rfl rfl rfl trivial))
 refine xmf rfl (xo rfl (xo rfl (xo rfl (xpF rfl (xpF rfl (TL.done (TQ.then (TC.condF rfl ?_))))))))
 refine TC.skip (TQ.then (TC.region (xmi rfl (xai rfl (dI (xmi rfl (TL.add (((k+1:Nat):Int)) rfl rfl (wrN (by omega)) rfl rfl (xai rfl ?_))))))))
 refine TL.done (TQ.roundK ((k+1,c)) ⟨⟨(show k+1≤qn by omega),.inr rfl⟩,(show qn - (k+1)<qn - k by omega)⟩ ⟨rfl,congrArg (fun z:Int=>some (Value.int .i64 z)) (by omega),trivial⟩ trivial (kE4 rfl rfl rfl rfl trivial) (kL7 rfl rfl rfl rfl rfl rfl rfl trivial))
 refine dE rfl (sA (xmi rfl (xai rfl (dR ?_))))
 refine FQ.ret1 (v:=(.int _ _)) (Bs:=[_,_,_,_,_]) [0,1,2,3,4] rfl rfl rfl ⟨rfl,rfl,rfl,rfl,rfl,trivial⟩ ?_
 obtain ⟨j,hj,e⟩:=he
 exact ⟨iE (hO.elim (fun h=>by have:=h.2 j (by omega); rw [e] at this; cases this) id),rfl⟩
set_option maxHeartbeats 1000000 in
theorem zlg {l:Lay} (hl:l.Ok) {σ:M} {nv:Value} {ca xa:Option Addr} {mr bc offc cn cc bx offx xn xc:Nat} {Acl Ax:Assn} {fc:Nat→Int} {fx:Nat→Nm} {ps:List (Nm×Nat)} (hB:BookOk l σ ca bc offc cn Acl fc xa bx offx xn Ax fx ps) {pr mk:Int→Int} {F:Int→T} {g:G} {L:Int→Int→List Int} (hIR:InvR l pr σ F mk g L) {i:Int} {s:Nat} (hi:0≤i∧i<l.lev) (hP:Pg g i (s:Int)) {ra:Option Addr} {rb roff rn rc:Nat} {Ar:Assn} {f:Nat→Int} (hra:0<rn→ra=some ⟨rb,roff,none⟩) (hrA:zaW Ar encI 1 rb roff rn f) (hrn:rn=(F (l.arc (s:Int) i 0)).list.length) (hf:∀ j,j<rn→f j=(F (l.arc (s:Int) i 0)).list[j]!) {ga:Option Addr} {gb gc:Nat} {Ag:Assn} {D:Array (Int×Int)} (hga:0<D.size→ga=some ⟨gb,0,none⟩) (hgA:zaW Ag encP 2 gb 0 D.size (fun j=>D[j]!)) (hDz:D.size=l.S) (hD:∀ q,q<D.size→D[q]! =grP g (Pg g i) q)  : FnD Tryz.prog 118 [.agg #[.int .i64 l.V,.int .i64 l.S,.int .i64 l.T,nv,.slice ca cn cc,.map (some mr),.slice xa xn xc],.slice ra rn rc,.slice ga D.size gc,.int .i64 i,.int .i64 (s:Int)] [Acl,mapA mr nmV natV ps,Ax,Ar,Ag] (.bool true) [Acl,mapA mr nmV natV ps,Ax,Ar,Ag]:=by
 have hcn:=hB.hcn
 have hxn:=hB.hxn
 have hnb:=zaz hl
 have hcb:=zaO hl
 have hF:=hIR.lm.forest
 obtain ⟨hs0,hs1⟩:=hIR.edges.rng _ hP.1
 have hlb:=zaU hl
 obtain ⟨_,_,h0,h1⟩:=hIR.okuv hl hP.1 hi
 have hn0:=(zar hl h0).1
 have hDs:D[s]! =(g.u (s:Int),g.v (s:Int)):=by rw [hD s (by omega)]; unfold grP; rw [if_pos hP]
 have hr6:rn≤560:=by have:=hF.rowLen hl hn0; rw [hrn]; exact this
 obtain ⟨A,e1,B,e2,C,c,hL,he,hPt⟩:=zpu hl hIR hi hP
 have hm0:l.arc (s:Int) i 0∈(F (l.arc (s:Int) i 0)).list:=hF.mem _ hn0
 have hm1:l.arc (s:Int) i 1∈(F (l.arc (s:Int) i 0)).list:=by rw [←((hIR.tours i hi).arcs _ hP).1]; exact hF.mem _ (zar hl h1).1
 have hc2:=hPt.hc
 have hcut:cutW (l.arc (s:Int) i 0) (l.arc (s:Int) i 1) 0 (F (l.arc (s:Int) i 0)).list=(B,A++C):=by have:=hF.nodup _ hn0; rw [hL] at this ⊢; exact zqe this he
 have hlvX:=zeG hl hIR hi hn0 (by rw [(zar hl h0).2])
 have inB:∀ y,y∈B→y∈(F (l.arc (s:Int) i 0)).list:=fun y hy=>by rw [hL]; simp [hy]
 have inO:∀ y,y∈A++C→y∈(F (l.arc (s:Int) i 0)).list:=fun y hy=>by rw [hL]; simp only [List.mem_append,List.mem_cons] at hy ⊢; rcases hy with h | h; exact .inl h; exact .inr (.inr (.inr (.inr h)))
 have hBl:B.length+(A.length+C.length)≤rn:=by have:=hrn; rw [hL] at this; simp at this ⊢; omega
 have hjj:∀ x y,zcY (fun j=>(D.setIfInBounds s (-1,-1))[j]!) D.size x y=true↔Conn (fun q=>Pg g i q∧q≠(s:Int)) g.u g.v x y:=fun x y=>zhZ (l:=l) hDz (fun q hq=>⟨(hIR.edges.rng q hq.1.1).1,(hIR.edges.rng q hq.1.1).2.1.1⟩) (zpJ (by omega) hD)
 refine Fn.enter (Tryz.func118) rfl rfl (fun w0 R=>?_)
 refine sA (xB 5 rfl (fun bk5=>(xaf rfl (dB (xms rfl (xmi rfl (TL.iaO rfl hga rfl zaY (by omega) rfl rfl (TL.iaA (_+0) rfl rfl zaQ (by decide) (by decide) rfl rfl rfl (TL.ldRF 4 (.int _ _) rfl rfl hgA (by omega) rfl rfl zaa rfl rfl ?_)))))))))
 refine TL.lssF rfl rfl (by rw [hDs]; show ¬g.u (s:Int)<0; omega) rfl rfl (TL.done (TQ.then (TC.condF rfl (TC.skip (TQ.then (TC.seq (TC.draw [(0,true),(1,true),(2,true),(3,true),(5,true),(6,true),(7,true),(8,true),(4,false),(9,false),(10,true),(11,true)] [5] fc_m (by kernel_rfl) (xL7 5 zai rfl rfl ?_))))))))
 refine xmi rfl (xmi rfl (TL.bld [.int .i64 0,.int .i64 0,.int .i64 0,.int .i64 0] [(.int _ _),(.int _ _),(.int _ _)] [_,_,_,_] zaK zbf ⟨rfl,rfl,rfl,trivial⟩ ⟨rfl,rfl⟩ rfl rfl (xL7 5 zai rfl rfl (xmi rfl (xmi rfl (TL.bld [.int .i64 0,.int .i64 0,.int .i64 0,.int .i64 0] [(.int _ _),(.int _ _),(.int _ _),(.int _ _)] [_,_,_,_] zaK zbf ⟨rfl,rfl,rfl,rfl,trivial⟩ ⟨rfl,rfl⟩ rfl rfl (TL.callD [0,1,2] [0,1,2] (zfs hl hB (zmf hl h0)) ⟨rfl,rfl,trivial⟩ ⟨rfl,rfl,rfl,trivial⟩ zgM rfl rfl rfl rfl rfl (kL1 rfl trivial) ?_)))))))
 refine TL.callD [0,1,2] [0,1,2] (zfs hl hB (zmf hl h1)) ⟨rfl,rfl,trivial⟩ ⟨rfl,rfl,rfl,trivial⟩ zgM rfl rfl rfl rfl rfl (kL1 rfl trivial) (xai rfl (xai rfl (dB (xms rfl (xmi rfl (TL.callD [3] [3] (zeg hra hrA (by omega)) ⟨rfl,rfl,trivial⟩ ⟨rfl,trivial⟩ zfI rfl rfl rfl rfl rfl trivial ?_))))))
 rw [ziR hf hrn hm0]
 refine xnt rfl (xmf rfl (xms rfl (xmi rfl (TL.callD [3] [3] (zeg hra hrA (by omega)) ⟨rfl,rfl,trivial⟩ ⟨rfl,trivial⟩ zfI rfl rfl rfl rfl rfl trivial ?_))))
 rw [ziR hf hrn hm1]
 refine xnt rfl (xpF rfl (dF rfl (xms rfl (xmi rfl (xmi rfl (TL.call [3] [3,6,7] (zol hra hrA hrn hf (by omega)) ⟨rfl,rfl,rfl,trivial⟩ ⟨rfl,trivial⟩ zp1 rfl rfl rfl rfl ?_))))))
 rintro z4 Bs ⟨vi,wo,rfl,rfl⟩
 refine ⟨rfl,trivial,?_⟩
 rw [hcut]
 refine TL.ownW 6 rfl (fun aii gii cii hvii hcii haii=>?_)
 subst hvii
 refine TL.ownW 7 rfl (fun aoo goo coo hvoo hcoo haoo=>?_)
 subst hvoo
 refine xmu rfl (xes rfl rfl (xes rfl rfl (xas rfl (xas rfl (dA (TL.asg (.slice none 0 0) rfl rfl rfl (dS (TC.nilA 8 (A:=ownA encP 2 70 (.slice none 0 0) #[]) (.inl ⟨rfl,rfl⟩) ?_))))))))
 refine TC.region (xmv rfl (xms rfl (TL.appQ 8 4 (d2:=D) rfl (rfl) rfl (hga) rfl rfl (hgA) zkF (by decide) zd1 (by simp; omega) rfl rfl (fun v9=>⟨trivial,?_⟩))))
 rw [show (#[]++D:Array (Int×Int))=D from Array.empty_append]
 refine TL.ownW 8 rfl (fun a7 g7 c7 hv7 hc7 ha7=>?_)
 subst hv7
 obtain rfl:=ha7 (by omega)
 refine xav rfl (dA (xmv rfl (xmi rfl (TL.bldA [.int .i64 0,.int .i64 0] [(.int _ _),(.int _ _)] [_,_] zgw zaQ ⟨rfl,rfl,trivial⟩ ⟨rfl,rfl⟩ rfl rfl (TL.iaO rfl (fun _=>rfl) rfl zaY (by omega) rfl rfl (TL.stO 8 (i:=s) (u:=(-1,-1)) (rfl) rfl rfl rfl (zgQ) (by omega) zfo rfl rfl trivial (dS (TC.draw [(0,true),(1,true),(2,true),(3,true),(4,true),(5,true),(6,true),(8,true),(9,true),(10,true),(11,true),(12,true),(13,true),(14,true),(7,false),(15,false),(16,true),(17,true)] [4,5] fc_m (by kernel_rfl) ?_))))))))
 refine xL7 5 zai rfl rfl (xms rfl (xmv rfl (xms rfl (xmi rfl (TL.iaO rfl hga rfl zaY (by omega) rfl rfl (TL.ldRx 4 [.int .i64 (g.u (s:Int)),.int .i64 (g.v (s:Int))] rfl rfl hgA (by omega) (by show encP D[s]! =_; rw [hDs]; rfl) zfo rfl rfl (xL7 5 zai rfl rfl (xms rfl ?_))))))))
 refine xmv rfl (xms rfl (xmi rfl (TL.iaO rfl hga rfl zaY (by omega) rfl rfl (TL.ldRx 4 [.int .i64 (g.u (s:Int)),.int .i64 (g.v (s:Int))] rfl rfl hgA (by omega) (by show encP D[s]! =_; rw [hDs]; rfl) zfo rfl rfl (TL.callD [0,1,2,6,8] [0,1,2,6,8] (zkN hl hB haii (zab haii) (by simp; omega) (fun _=>rfl) (zcM (by simp)) (by omega) hc2 (fun j hj=>(hlvX _ (inB _ (by rw [getElem!_pos _ j hj]; simp))).1) (fun j hj=>zg9 hl hjj hPt.bi hPt.ne (fun y hy=>hlvX y (inB y hy)) hj) (zlI hl hPt.hi)) ⟨rfl,rfl,rfl,rfl,trivial⟩ ⟨rfl,rfl,rfl,rfl,rfl,trivial⟩ zmS rfl rfl rfl rfl rfl (kL2 rfl rfl trivial) ?_)))))
 refine TL.callD [0,1,2,7,8] [0,1,2,7,8] (zkN hl hB haoo (zab haoo) (by simp; omega) (fun _=>rfl) (zcM (by simp)) (by omega) (show (1 - c=0∨1 - c=1) by omega) (fun j hj=>(hlvX _ (inO _ (by rw [getElem!_pos _ j hj]; simp))).1) (fun j hj=>zg9 hl hjj (fun w hw hm=>by have:=hPt.bo w hw hm; rcases hc2 with rfl | rfl<;>simpa using this) hPt.ne (fun y hy=>hlvX y (inO y hy)) hj) (zlI hl hPt.ho)) ⟨rfl,rfl,rfl,rfl,trivial⟩ ⟨rfl,rfl,rfl,rfl,rfl,trivial⟩ zmS rfl rfl rfl rfl rfl (kL2 rfl rfl trivial) (xai rfl (xai rfl (dA (xmi rfl (TL.geqT rfl rfl (by omega) rfl rfl (xmt rfl (xmi rfl (TL.geqT rfl rfl (by omega) rfl rfl ?_))))))))
 refine xpT rfl (xmt rfl (xmi rfl (xmi rfl (TL.neqT rfl rfl (by omega) rfl rfl (xpT rfl (xat rfl (dR ?_)))))))
 refine FQ.ret1 (v:=(.bool true)) (Bs:=[_,_,_,_,_]) [0,1,2,3,4] rfl rfl rfl ⟨rfl,rfl,rfl,rfl,rfl,trivial⟩ ?_
 exact ⟨rfl,rfl⟩
set_option maxHeartbeats 1000000 in
theorem zlk {l:Lay} (hl:l.Ok) {σ:M} {nv:Value} {ca xa:Option Addr} {mr bc offc cn cc bx offx xn xc:Nat} {Acl Ax:Assn} {fc:Nat→Int} {fx:Nat→Nm} {ps:List (Nm×Nat)} (hB:BookOk l σ ca bc offc cn Acl fc xa bx offx xn Ax fx ps) {pr mk:Int→Int} {F:Int→T} {g:G} {L:Int→Int→List Int} (hIR:InvR l pr σ F mk g L) {i x:Int} (hi:0≤i∧i<l.lev) (hx:l.nd x) (hlx:(l.node x).1.level=i) {ra:Option Addr} {rb roff rn rc:Nat} {Ar:Assn} {f:Nat→Int} (hra:0<rn→ra=some ⟨rb,roff,none⟩) (hrA:zaW Ar encI 1 rb roff rn f) (hrn:rn=(F x).list.length) (hf:∀ j,j<rn→f j=(F x).list[j]!) {ga:Option Addr} {gb gc:Nat} {Ag:Assn} {D:Array (Int×Int)} (hga:0<D.size→ga=some ⟨gb,0,none⟩) (hgA:zaW Ag encP 2 gb 0 D.size (fun j=>D[j]!)) (hDz:D.size=l.S) (hD:∀ q,q<D.size→D[q]! =grP g (Pg g i) q)  : FnD Tryz.prog 75 [.agg #[.int .i64 l.V,.int .i64 l.S,.int .i64 l.T,nv,.slice ca cn cc,.map (some mr),.slice xa xn xc],.slice ra rn rc,.slice ga D.size gc,.int .i64 i] [Acl,mapA mr nmV natV ps,Ax,Ar,Ag] (.bool true) [Acl,mapA mr nmV natV ps,Ax,Ar,Ag]:=by
 have hcn:=hB.hcn
 have hxn:=hB.hxn
 have hnb:=zaz hl
 have hcb:=zaO hl
 have hF:=hIR.lm.forest
 have hT:=hIR.tours i hi
 have hlb:=zaU hl
 have hr6:rn≤560:=by have:=hF.rowLen hl hx; rw [hrn]; exact this
 have hlvX:=zeG hl hIR hi hx hlx
 have hxm:=hF.mem x hx
 have hpos:0<rn:=by rw [hrn]; exact List.length_pos_of_mem hxm
 have hjj:∀ u v,zcY (fun j=>D[j]!) D.size u v=true↔Jn g i u v:=fun u v=>zhZ (l:=l) hDz (fun q hq=>⟨(hIR.edges.rng q hq.1).1,(hIR.edges.rng q hq.1).2.1.1⟩) hD
 have hvv:∀ w,w∈vsL l (F x).list→l.okV i w∧F (l.vertex i w)=F x:=fun w hw=>by obtain ⟨a1,a2⟩:=zls hl hlvX hw; exact ⟨a1,hF.cls x hx _ a2⟩
 have hvs:∀ q,q<(vsL l (F x).list).toArray.size→(vsL l (F x).list).toArray[q]!∈vsL l (F x).list:=fun q hq=>by rw [getElem!_pos _ q hq]; simp
 have hvl:=zhy (l:=l) (F x).list
 refine Fn.enter (Tryz.func75) rfl rfl (fun w0 R=>?_)
 refine sA (xB 5 rfl (fun bk5=>(xaf rfl (dA (xf 6 zby rfl (xls 5 za1 rfl rfl (xas rfl (dA (xai rfl ?_)))))))))
 refine dA (TL.asg (.slice none 0 0) rfl rfl rfl (dS (TC.seq (TC.nilA 6 (A:=ownA encI 1 3 (.slice none 0 0) (vsL l []).toArray) (.inl ⟨rfl,rfl⟩) (TC.region (xai rfl (dK (TC.loopK (X:=Nat×Value) [1,2,3,4,8,9] [0,1,2,3,4,5] (fun ⟨k,w⟩=>[(12,.int .i64 ((k:Nat):Int)),(10,.int .i64 ((acN l ((F x).list.take k):Nat):Int)),(11,w)]) (fun ⟨k,w⟩=>[(6,ownA encI 1 3 w (vsL l ((F x).list.take k)).toArray)]) (fun ⟨k,w⟩=>k≤rn) (fun ⟨k,w⟩=>rn - k) ((0,_)) (Nat.zero_le _) ⟨rfl,rfl,rfl,trivial⟩ ⟨rfl,trivial⟩ (fun y hI=>?_)))))))))
 obtain ⟨k,w⟩:=y
 replace hI:k≤rn:=hI
 refine TC.sub (env':=[(12,_),(10,_),(11,_),(1,_),(2,_),(3,_),(4,_),(8,_),(9,_)]) (L':=[(6,_),(0,_),(1,_),(2,_),(3,_),(4,_),(5,_)]) ⟨rfl,rfl,rfl,rfl,rfl,rfl,rfl,rfl,rfl,trivial⟩ ⟨rfl,rfl,rfl,rfl,rfl,rfl,rfl,trivial⟩ (sB (xmi rfl (xms rfl (xz zae rfl (TL.lss rfl rfl rfl rfl (fun q1=>?_) (fun q1=>?_))))))
 refine TL.done (TQ.then (TC.condT rfl (TC.skip (TQ.then (TC.seq (TC.block (TC.seq ?_)))))))
 have hnz:l.nd (f k):=by rw [hf k (by omega),getElem!_pos _ k (by omega)]; exact (hlvX _ (List.getElem_mem _)).1
 obtain ⟨z,hz⟩:=Int.eq_ofNat_of_zero_le (show (0:Int)≤f k from by have:=hnz; have:=this.1; omega)
 rw [hz] at hnz
 have hnz1:=hnz.1
 have hnz2:=hnz.2
 have hfz:=hB.hfx (z - 1) (by omega)
 rw [show (((z - 1:Nat):Int)+1)=(z:Int) by omega] at hfz
 have hzk:(F x).list[k]! =(z:Int):=by rw [←hf k (by omega),hz]
 have hat:=zow (l:=l) (r:=(F x).list) (k:=k) (by omega)
 have hvt:=zj5 (l:=l) (r:=(F x).list) (k:=k) (by omega)
 rw [hzk] at hat hvt
 have hvl2:=zhy (l:=l) ((F x).list.take k)
 have htl:((F x).list.take k).length≤k:=List.length_take_le _ _
 refine TC.region (xms rfl (xms rfl (xmi rfl (TL.iaO rfl hra rfl zae (by omega) rfl rfl (TL.ldRS 3 (.int .i64 (z:Int)) rfl rfl hrA (by omega) (by rw [hz]; rfl) zaa rfl rfl (TL.sub (((z - 1:Nat):Int)) rfl rfl (wrN (by omega)) rfl rfl (TL.iaO rfl hB.hx rfl zaf (by omega) rfl rfl (TL.ldRx 2 [_,_,_,_] rfl rfl hB.hX (by omega) rfl zaG rfl rfl ?_))))))))
 refine TL.alloc 7 (cs:=#[.int .i64 0,.int .i64 0,.int .i64 0,.int .i64 0]) zaK rfl rfl rfl (fun _=>trivial) (fun bk7=>(TL.stW 7 4 [_,_,_,_] rfl rfl rfl rfl rfl rfl zaG rfl rfl trivial (dA (xf 0 zcw rfl (xli 7 zaa rfl rfl (TL.eql rfl rfl rfl rfl (fun q2=>?_) (fun q2=>?_)))))))
 refine TL.done (TQ.then (TC.condT rfl (TC.region (xmv rfl (xf 2 zc3 rfl (xli 7 zaa rfl rfl (TL.bsN 8 [_] (encI (fx (z - 1)).b) zae zeL ⟨rfl,trivial⟩ rfl (lit1 rfl) rfl rfl (fun bk8=>⟨trivial,?_⟩))))))))
 refine TL.appS 6 8 (d2:=#[(fx (z - 1)).b]) rfl (rfl) rfl (fun _=>rfl) rfl rfl (row1 rfl) zci (by decide) za2 (by simp; omega) rfl rfl (fun v9=>⟨trivial,?_⟩)
 refine xav rfl (dI (xmi rfl (TL.add (((k+1:Nat):Int)) rfl rfl (wrN (by omega)) rfl rfl (xai rfl (TL.done (TQ.roundK ((k+1,_)) ⟨(show k+1≤rn by omega),(show rn - (k+1)<rn - k by omega)⟩ ⟨rfl,congrArg (fun z:Nat=>some (Value.int .i64 (z:Int))) (by rw [hat,(hfz.vtx hl (by omega)).2]; rfl),rfl,trivial⟩ ⟨congrArg (fun z=>some (ownA encI 1 3 _ z)) (by rw [hvt,(hfz.vtx hl (by omega)).2,(hfz.vtx hl (by omega)).1]; simp),trivial⟩ (kE6 rfl rfl rfl rfl rfl rfl trivial) (kL6 rfl rfl rfl rfl rfl rfl trivial)))))))
 refine TL.done (TQ.then (TC.condF rfl (TC.region (xmi rfl (TL.add (((acN l ((F x).list.take k)+1:Nat):Int)) rfl rfl (wrN (by omega)) rfl rfl (xai rfl (dI (xmi rfl ?_))))))))
 refine TL.add (((k+1:Nat):Int)) rfl rfl (wrN (by omega)) rfl rfl (xai rfl (TL.done (TQ.roundK ((k+1,_)) ⟨(show k+1≤rn by omega),(show rn - (k+1)<rn - k by omega)⟩ ⟨rfl,congrArg (fun z:Nat=>some (Value.int .i64 (z:Int))) (by rw [hat,(hfz.arcs hl (by omega)).2.2.2]; rfl),rfl,trivial⟩ ⟨congrArg (fun z=>some (ownA encI 1 3 _ z)) (by rw [hvt,(hfz.arcs hl (by omega)).2.2.2]; simp),trivial⟩ (kE6 rfl rfl rfl rfl rfl rfl trivial) (kL6 rfl rfl rfl rfl rfl rfl trivial))))
 refine dE rfl (TC.seq (TC.seq ?_))
 rw [show (F x).list.take k=(F x).list from List.take_of_length_le (by omega)]
 refine TC.ownW 6 rfl (fun a9 g9 c9 hv9 hc9 ha9=>?_)
 cases hv9
 refine TC.region (xmv rfl (xz zae rfl (TL.eql rfl rfl rfl rfl (fun q2=>?_) (fun q2=>?_))))
 refine TL.done (TQ.then (TC.condT rfl (TC.seq ?_)))
 have hnz:l.nd (f 0):=by rw [hf 0 (by omega),getElem!_pos _ 0 (by omega)]; exact (hlvX _ (List.getElem_mem _)).1
 obtain ⟨z,hz⟩:=Int.eq_ofNat_of_zero_le (show (0:Int)≤f 0 from by have:=hnz; have:=this.1; omega)
 rw [hz] at hnz
 have hnz1:=hnz.1
 have hnz2:=hnz.2
 have hfz:=hB.hfx (z - 1) (by omega)
 rw [show (((z - 1:Nat):Int)+1)=(z:Int) by omega] at hfz
 have hzk:(F x).list[0]! =(z:Int):=by rw [←hf 0 (by omega),hz]
 have hv0:vsL l (F x).list=[]:=List.eq_nil_of_length_eq_zero (by have h9:(((vsL l (F x).list).toArray.size:Nat):Int)=0:=(by assumption); simpa using h9)
 obtain ⟨s,hs,hzs,hDs,h1n⟩:=zj1 hl hIR hi hx hlx hv0 hfz hzk hDz hD
 have hrn1:rn=1:=by omega
 refine TC.region (xms rfl (xz zae rfl (TL.eqlT rfl rfl (by omega) rfl rfl (xmt rfl (xms rfl (xms rfl (xms rfl (TL.iaO (i:=0) rfl hra rfl zae (by omega) rfl rfl ?_))))))))
 refine TL.ldRS 3 (.int .i64 (z:Int)) rfl rfl hrA (by omega) (by rw [hz]; rfl) zaa rfl rfl (TL.sub (((z - 1:Nat):Int)) rfl rfl (wrN (by omega)) rfl rfl (TL.iaO rfl hB.hx rfl zaf (by omega) rfl rfl (xf 1 zeQ rfl (TL.ldRF 2 (.int .i64 (s:Int)) rfl rfl hB.hX (by omega) (zeS _).1 (by show some (Value.int .i64 (fx (z - 1)).a)=_; rw [hzs]) zaa rfl rfl (TL.iaO rfl hga rfl zaY (by omega) rfl rfl (TL.iaA (_+0) rfl rfl zaQ (by decide) (by decide) rfl rfl rfl (TL.ldRF 4 (.int _ _) rfl rfl hgA (by omega) rfl rfl zaa rfl rfl (TL.lssT rfl rfl (by show (D[s]!).1<0; rw [hDs]; decide) rfl rfl ?_))))))))
 refine xpT rfl (xat rfl (dRR ?_))
 refine FQ.ret1 (v:=(.bool true)) (Bs:=[_,_,_,_,_]) [0,1,2,3,4] rfl rfl rfl ⟨rfl,rfl,rfl,rfl,rfl,trivial⟩ ?_
 exact ⟨rfl,rfl⟩
 refine TL.done (TQ.then (TC.condF rfl (TC.skip (TQ.then (TC.seq (TC.seq ?_))))))
 obtain ⟨u,hmu⟩:∃ u,u∈vsL l (F x).list:=by cases hh:vsL l (F x).list with | nil=>exact absurd (show (((vsL l (F x).list).toArray.size:Nat):Int)=0 from by rw [hh]; rfl) (by assumption) | cons u r=>exact ⟨u,by simp⟩
 obtain ⟨hu,hFu⟩:=hvv u hmu
 have hcnt:=ziC hl hIR hi hu.2
 have hnn:=nv_ne hl hIR hi hu.2
 rw [hFu] at hcnt
 have hsz9:(vsL l (F x).list).toArray.size=(vsL l (F x).list).length:=by simp
 refine TC.region (xmi rfl (xmv rfl (xz zae rfl (TL.mul _ rfl rfl (wr64 (by omega)) rfl rfl (TL.sub _ rfl rfl (wr64 (by omega)) rfl rfl (TL.neqF rfl rfl (by omega) rfl rfl (TL.done (TQ.then ?_))))))))
 refine TC.condF rfl (TC.skip (TQ.then (sB (xai rfl (dK (TC.loopK (X:=Nat) [1,2,3,4,9,11] [0,1,2,3,4,5,6] (fun q=>[(14,.int .i64 ((q:Nat):Int))]) (fun q=>[]) (fun q=>q≤(vsL l (F x).list).toArray.size) (fun q=>(vsL l (F x).list).toArray.size - q) (0) (Nat.zero_le _) ⟨rfl,trivial⟩ trivial (fun q hI=>(TC.sub (env':=[(14,_),(1,_),(2,_),(3,_),(4,_),(9,_),(11,_)]) (L':=[(0,_),(1,_),(2,_),(3,_),(4,_),(5,_),(6,_)]) ⟨rfl,rfl,rfl,rfl,rfl,rfl,rfl,trivial⟩ ⟨rfl,rfl,rfl,rfl,rfl,rfl,rfl,trivial⟩ (sB ?_)))))))))
 refine xmi rfl (xmv rfl (xz zae rfl (TL.lss rfl rfl rfl rfl (fun q3=>?_) (fun q3=>?_))))
 refine TL.done (TQ.then (TC.condT rfl (TC.skip (TQ.then (TC.seq (TC.block (TC.seq ?_)))))))
 obtain ⟨ou,eu⟩:=hvv _ (hvs 0 (by omega))
 obtain ⟨ov,ev⟩:=hvv _ (hvs q (by omega))
 have hjn:=(hjj _ _).2 ((hT.row_iff hl hi ou ov).1 (eu.trans ev.symm))
 refine TC.draw [(0,true),(1,true),(2,true),(3,true),(4,true),(5,true),(6,true),(7,true),(8,false),(9,true)] [6] fc_m (by kernel_rfl) (xms rfl (xmv rfl (TL.iaO (i:=0) rfl ha9 rfl zae (by omega) rfl rfl (TL.ldRS 6 (.int _ _) rfl rfl (zab ha9) (by omega) (rfl) zaa rfl rfl (xmv rfl (xmi rfl (TL.iaO rfl ha9 rfl zae (by omega) rfl rfl (TL.ldRS 6 (.int _ _) rfl rfl (zab ha9) (by omega) (rfl) zaa rfl rfl ?_))))))))
 refine TL.callD [4] [4] (zeh hga hgA (by omega)) ⟨rfl,rfl,rfl,trivial⟩ ⟨rfl,trivial⟩ zhm rfl rfl rfl rfl rfl (kL1 rfl trivial) ?_
 rw [hjn]
 refine xnt rfl (TL.done (TQ.then (TC.condF rfl (TC.skip (TQ.inBlock (TQ.then (TC.region (xmi rfl ?_))))))))
 refine TL.add (((q+1:Nat):Int)) rfl rfl (wrN (by omega)) rfl rfl (xai rfl (TL.done (TQ.roundK (q+1) ⟨by omega,by omega⟩ ⟨rfl,trivial⟩ trivial (kE6 rfl rfl rfl rfl rfl rfl trivial) (kL7 rfl rfl rfl rfl rfl rfl rfl trivial))))
 refine dE rfl (sB (xai rfl (dK (TC.loopK (X:=Nat) [1,2,3,4,9] [0,1,2,3,4,5,6] (fun k=>[(15,.int .i64 ((k:Nat):Int))]) (fun k=>[]) (fun k=>k≤rn) (fun k=>rn - k) (0) (Nat.zero_le _) ⟨rfl,trivial⟩ trivial (fun k hI=>(TC.sub (env':=[(15,_),(1,_),(2,_),(3,_),(4,_),(9,_)]) (L':=[(0,_),(1,_),(2,_),(3,_),(4,_),(5,_),(6,_)]) ⟨rfl,rfl,rfl,rfl,rfl,rfl,trivial⟩ ⟨rfl,rfl,rfl,rfl,rfl,rfl,rfl,trivial⟩ (sB (xmi rfl (xms rfl ?_)))))))))
 refine xz zae rfl (TL.lss rfl rfl rfl rfl (fun q4=>?_) (fun q4=>?_))
 refine TL.done (TQ.then (TC.condT rfl (TC.skip (TQ.then (TC.seq (TC.block (TC.seq ?_)))))))
 have hnz:l.nd (f k):=by rw [hf k (by omega),getElem!_pos _ k (by omega)]; exact (hlvX _ (List.getElem_mem _)).1
 obtain ⟨z,hz⟩:=Int.eq_ofNat_of_zero_le (show (0:Int)≤f k from by have:=hnz; have:=this.1; omega)
 rw [hz] at hnz
 have hnz1:=hnz.1
 have hnz2:=hnz.2
 have hfz:=hB.hfx (z - 1) (by omega)
 rw [show (((z - 1:Nat):Int)+1)=(z:Int) by omega] at hfz
 have hzk:(F x).list[k]! =(z:Int):=by rw [←hf k (by omega),hz]
 refine TC.region (xms rfl (xms rfl (xmi rfl (TL.iaO rfl hra rfl zae (by omega) rfl rfl (TL.ldRS 3 (.int .i64 (z:Int)) rfl rfl hrA (by omega) (by rw [hz]; rfl) zaa rfl rfl (TL.sub (((z - 1:Nat):Int)) rfl rfl (wrN (by omega)) rfl rfl (TL.iaO rfl hB.hx rfl zaf (by omega) rfl rfl (TL.ldRx 2 [_,_,_,_] rfl rfl hB.hX (by omega) rfl zaG rfl rfl ?_))))))))
 refine TL.alloc 10 (cs:=#[.int .i64 0,.int .i64 0,.int .i64 0,.int .i64 0]) zaK rfl rfl rfl (fun _=>trivial) (fun bk10=>(TL.stW 10 4 [_,_,_,_] rfl rfl rfl rfl rfl rfl zaG rfl rfl trivial (dA (xf 0 zcw rfl (xli 10 zaa rfl rfl (TL.eql rfl rfl rfl rfl (fun q5=>?_) (fun q5=>?_)))))))
 refine xmt rfl (xf 3 zjM rfl (xli 10 zaa rfl rfl (TL.eql rfl rfl rfl rfl (fun q6=>?_) (fun q6=>?_))))
 refine xpT rfl (xmt rfl (xL7 5 zai rfl rfl (xms rfl (xms rfl (xmi rfl (xf 1 zeQ rfl (xli 10 zaa rfl rfl ?_)))))))
 obtain ⟨s,hs,hzs,hPs,hFz⟩:=zll hl hIR hi hu hFu.symm hfz (by rw [←hzk,getElem!_pos _ k (by omega)]; exact List.getElem_mem _) (by omega) (by omega)
 rw [hzs]
 refine TL.callD [0,1,2,3,4] [0,1,2,3,4] (zlg hl hB hIR hi hPs hra hrA (by rw [hFz]; exact hrn) (by rw [hFz]; exact hf) hga hgA hDz hD) ⟨rfl,rfl,rfl,rfl,rfl,trivial⟩ ⟨rfl,rfl,rfl,rfl,rfl,trivial⟩ zp5 rfl rfl rfl rfl rfl trivial (xnt rfl (xpG rfl (TL.done (TQ.then (TC.condF rfl (TC.skip (TQ.inBlock (TQ.then ?_))))))))
 refine TC.region (xmi rfl (TL.add (((k+1:Nat):Int)) rfl rfl (wrN (by omega)) rfl rfl (xai rfl (TL.done (TQ.roundK (k+1) ⟨by omega,by omega⟩ ⟨rfl,trivial⟩ trivial (kE5 rfl rfl rfl rfl rfl trivial) (kL7 rfl rfl rfl rfl rfl rfl rfl trivial))))))
 refine xpG rfl (xmf rfl (xo rfl (xo rfl (xo rfl (xo rfl (xo rfl (xo rfl (xo rfl ?_))))))))
 refine xo rfl (xpF rfl (TL.done (TQ.then (TC.condF rfl (TC.skip (TQ.inBlock (TQ.then (TC.region ?_))))))))
 refine xmi rfl (TL.add (((k+1:Nat):Int)) rfl rfl (wrN (by omega)) rfl rfl (xai rfl (TL.done (TQ.roundK (k+1) ⟨by omega,by omega⟩ ⟨rfl,trivial⟩ trivial (kE5 rfl rfl rfl rfl rfl trivial) (kL7 rfl rfl rfl rfl rfl rfl rfl trivial)))))
 refine xmf rfl (xo rfl (xo rfl (xo rfl (xpF rfl (xmf rfl (xo rfl (xo rfl (xo rfl ?_))))))))
 refine xo rfl (xo rfl (xo rfl (xo rfl (xo rfl (xpF rfl (TL.done (TQ.then (TC.condF rfl ?_))))))))
 refine TC.skip (TQ.inBlock (TQ.then (TC.region (xmi rfl (TL.add (((k+1:Nat):Int)) rfl rfl (wrN (by omega)) rfl rfl (xai rfl (TL.done (TQ.roundK (k+1) ⟨by omega,by omega⟩ ⟨rfl,trivial⟩ trivial (kE5 rfl rfl rfl rfl rfl trivial) (kL7 rfl rfl rfl rfl rfl rfl rfl trivial)))))))))
 refine dE rfl (sA (xat rfl (dR ?_)))
 refine FQ.ret1 (v:=(.bool true)) (Bs:=[_,_,_,_,_]) [0,1,2,3,4] rfl rfl rfl ⟨rfl,rfl,rfl,rfl,rfl,trivial⟩ ?_
 exact ⟨rfl,rfl⟩
set_option maxHeartbeats 2000000 in
theorem znh {l:Lay} (hl:l.Ok) {σ:M} {nv:Value} {ca xa:Option Addr} {mr bc offc cn cc bx offx xn xc:Nat} {Acl Ax:Assn} {fc:Nat→Int} {fx:Nat→Nm} {ps:List (Nm×Nat)} (hB:BookOk l σ ca bc offc cn Acl fc xa bx offx xn Ax fx ps) {pr:Int→Int} {g:G} {b:Bool} (hRG:zaL l pr σ g) (hst:b=true→zpe l g)  : FnD Tryz.prog 25 [.agg #[.int .i64 l.V,.int .i64 l.S,.int .i64 l.T,nv,.slice ca cn cc,.map (some mr),.slice xa xn xc],.bool b] [Acl,mapA mr nmV natV ps,Ax] (.bool true) [Acl,mapA mr nmV natV ps,Ax]:=by
 have hcn:=hB.hcn
 have hxn:=hB.hxn
 have hnb:=zaz hl
 have hcb:=zaO hl
 obtain ⟨F,mk,L,hIR⟩:=hRG
 have hF:=hIR.lm.forest
 have hlb:=zaU hl
 have hEd:=hIR.edges
 have lb:=zb9 hl
 have hlv:=zn5 hl hIR
 refine Fn.enter (Tryz.func25) rfl rfl (fun w0 R=>?_)
 refine sA (xB 3 rfl (fun bk3=>(xaf rfl (dA (xL7 3 zai rfl rfl (TL.call [0,1,2] [0,1,2,4] (zd5 hl hB hEd) ⟨rfl,trivial⟩ ⟨rfl,rfl,rfl,trivial⟩ zi3 rfl rfl rfl rfl ?_))))))
 rintro x7 Bs ⟨ve,E,rfl,rfl,hME⟩
 refine ⟨rfl,trivial,?_⟩
 refine xmu rfl (xev rfl rfl (xet rfl rfl (xav rfl (xat rfl (dB (xmt rfl (xnt rfl (xmf rfl ?_))))))))
 refine xL7 3 zai rfl rfl (xmv rfl (TL.callD [0,1,2,4] [0,1,2,4] (znj hl hB hIR hME) ⟨rfl,rfl,trivial⟩ ⟨rfl,rfl,rfl,rfl,trivial⟩ zri rfl rfl rfl rfl rfl trivial (xnt rfl (xpF rfl (dF rfl (xf 0 zbh rfl (xf 1 zbO rfl (xli 3 zaa rfl rfl ?_))))))))
 refine TL.mkO 5 (enc:=encI) (N:=l.S) (0) rfl rfl za2 zeL rfl (by decide) (by omega) rfl rfl (fun bk5=>⟨trivial,?_⟩)
 refine xas rfl (dS (TC.seq ?_))
 have hdz:E.size≤l.S:=Rel.size hl ⟨g,⟨F,mk,L,hIR⟩,hME⟩
 refine TC.ownW 4 rfl (fun a9 g9 c9 hv9 hc9 ha9=>?_)
 cases hv9
 refine TC.region (xai rfl (dK (TC.loopK (X:=Nat×Array Int) [1,2,4,5,7] [0,1,2,3,4] (fun ⟨k,D⟩=>[(8,.int .i64 ((k:Nat):Int))]) (fun ⟨k,D⟩=>[(5,ownA encI 1 3 (.slice (some ⟨bk5,0,none⟩) l.S l.S) D)]) (fun ⟨k,D⟩=>(k≤E.size∧D.size=l.S)∧UsI E k D) (fun ⟨k,D⟩=>E.size - k) ((0,Array.replicate l.S 0)) ⟨⟨Nat.zero_le _,by simp⟩,UsI.start⟩ ⟨rfl,trivial⟩ ⟨rfl,trivial⟩ (fun y hI=>?_))))
 obtain ⟨k,D⟩:=y
 obtain ⟨⟨hk,hDz⟩,hU⟩:=hI
 replace hk:k≤E.size:=hk
 replace hDz:D.size=l.S:=hDz
 replace hU:UsI E k D:=hU
 refine TC.sub (env':=[(8,_),(1,_),(2,_),(4,_),(5,_),(7,_)]) (L':=[(5,_),(0,_),(1,_),(2,_),(3,_),(4,_)]) ⟨rfl,rfl,rfl,rfl,rfl,rfl,trivial⟩ ⟨rfl,rfl,rfl,rfl,rfl,rfl,trivial⟩ (sB (xmi rfl (xmv rfl (xz zah rfl (TL.lss rfl rfl rfl rfl (fun q1=>?_) (fun q1=>?_))))))
 refine TL.done (TQ.then (TC.condT rfl (TC.skip (TQ.then (TC.seq (TC.block ?_))))))
 have hrs:=(hEd.rng _ (hME.row k (by omega)).1).1
 obtain ⟨s,hs⟩:=Int.eq_ofNat_of_zero_le hrs.1
 have hub:=hU.b (s:=s) (by omega)
 refine TC.region (xms rfl (xmv rfl (xmi rfl (TL.iaO rfl ha9 rfl zah (by omega) rfl rfl (xf 0 zaS rfl (TL.ldRF 4 (.int .i64 (s:Int)) rfl rfl (zab ha9) (by omega) (zbg _).1 (by rw [←show E[k]!.slot=(s:Int) from hs]; rfl) zaa rfl rfl (TL.iaO rfl (fun _=>rfl) rfl zae (by omega) rfl rfl (TL.ldRS 5 (.int _ _) rfl rfl (zcM (by omega)) (by omega) (rfl) zaa rfl rfl ?_))))))))
 refine TL.add _ rfl rfl (wr64 (by omega)) rfl rfl (TL.iaO rfl (fun _=>rfl) rfl zae (by omega) rfl rfl (TL.stOF 5 (o:=0) (i:=s) (cur:=D[s]!) (u:=D[s]!+1) (by omega) rfl rfl rfl rfl (by omega) (rfl) ⟨rfl,rfl⟩ rfl zaa rfl rfl trivial (dI (xmi rfl (TL.add (((k+1:Nat):Int)) rfl rfl (wrN (by omega)) rfl rfl (xai rfl (TL.done (TQ.roundK ((k+1,_)) ⟨⟨⟨(show k+1≤E.size by omega),(show (D.setIfInBounds _ _).size=l.S by simp; omega)⟩,hU.step hME (by omega) hs (by omega)⟩,(show E.size - (k+1)<E.size - k by omega)⟩ ⟨rfl,trivial⟩ ⟨rfl,trivial⟩ (kE5 rfl rfl rfl rfl rfl trivial) (kL5 rfl rfl rfl rfl rfl trivial)))))))))
 refine dE rfl (sB (xai rfl (dK (TC.loopK (X:=Nat) [1,2,5,7] [0,1,2,3,4,5] (fun s=>[(9,.int .i64 ((s:Nat):Int))]) (fun s=>[]) (fun s=>s≤l.S) (fun s=>l.S - s) (0) (Nat.zero_le _) ⟨rfl,trivial⟩ trivial (fun s hI=>(TC.sub (env':=[(9,_),(1,_),(2,_),(5,_),(7,_)]) (L':=[(0,_),(1,_),(2,_),(3,_),(4,_),(5,_)]) ⟨rfl,rfl,rfl,rfl,rfl,trivial⟩ ⟨rfl,rfl,rfl,rfl,rfl,rfl,trivial⟩ (sB (xmi rfl (xms rfl ?_)))))))))
 refine xz zae rfl (TL.lss rfl rfl rfl rfl (fun q2=>?_) (fun q2=>?_))
 refine TL.done (TQ.then (TC.condT rfl (TC.skip (TQ.then (TC.seq (TC.block (sA (xms rfl ?_))))))))
 refine xmi rfl (TL.iaO rfl (fun _=>rfl) rfl zae (by omega) rfl rfl (TL.ldRS 5 (.int _ _) rfl rfl (zcM (by omega)) (by omega) (rfl) zaa rfl rfl (TL.gtrF rfl rfl (by have:=(hU.b (s:=s) (by omega)).2; omega) rfl rfl (TL.done (TQ.then (TC.condF rfl (TC.skip (TQ.inBlock ?_))))))))
 refine TQ.then (TC.region (xmi rfl (TL.add (((s+1:Nat):Int)) rfl rfl (wrN (by omega)) rfl rfl (xai rfl (TL.done (TQ.roundK (s+1) ⟨by omega,by omega⟩ ⟨rfl,trivial⟩ trivial (kE4 rfl rfl rfl rfl trivial) (kL6 rfl rfl rfl rfl rfl rfl trivial)))))))
 refine dE rfl (sA (xL7 3 zai rfl rfl (xmv rfl (TL.call [0,1,2,4] [0,1,2,4,6] (zni hl hB hIR hME) ⟨rfl,rfl,trivial⟩ ⟨rfl,rfl,rfl,rfl,trivial⟩ zrh rfl rfl rfl rfl ?_))))
 rintro x7 Bs ⟨Dm,rfl,hDmz,hDmx⟩
 refine ⟨rfl,trivial,?_⟩
 refine TL.ownW 6 rfl (fun am gm cm hvm hcm ham=>?_)
 subst hvm
 refine xas rfl (dA (xf 0 zbh rfl (xf 0 zbn rfl (xli 3 zaa rfl rfl (xai rfl (dB (xai rfl (dK ?_))))))))
 refine TC.loopK (X:=Nat×Nat) [1,2,5,10] [0,1,2,3,4,5,6] (fun ⟨i,m⟩=>[(12,.int .i64 ((i:Nat):Int)),(11,.int .i64 ((m:Nat):Int))]) (fun ⟨i,m⟩=>[]) (fun ⟨i,m⟩=>(i:Int)≤l.lev∧m=l.V / 2 ^ i) (fun ⟨i,m⟩=>l.lev.toNat - i) ((0,l.V)) ⟨by omega,by simp⟩ ⟨rfl,rfl,trivial⟩ trivial (fun y hI=>?_)
 obtain ⟨i,m⟩:=y
 obtain ⟨hi,hm⟩:=hI
 replace hi:(i:Int)≤l.lev:=hi
 replace hm:m=l.V / 2 ^ i:=hm
 obtain ⟨hm1,hm2⟩:=zpI hm
 refine TC.sub (env':=[(12,_),(11,_),(1,_),(2,_),(5,_),(10,_)]) (L':=[(0,_),(1,_),(2,_),(3,_),(4,_),(5,_),(6,_)]) ⟨rfl,rfl,rfl,rfl,rfl,rfl,trivial⟩ ⟨rfl,rfl,rfl,rfl,rfl,rfl,rfl,trivial⟩ (sB (xmi rfl (xf 0 zbh rfl (xL3 3 zbX rfl rfl (TL.callD [] [] (zb2 hl) ⟨rfl,trivial⟩ trivial zhn rfl rfl rfl rfl rfl trivial (TL.lss rfl rfl rfl rfl (fun q3=>?_) (fun q3=>?_)))))))
 refine TL.done (TQ.then (TC.condT rfl (TC.skip (TQ.then (TC.seq (TC.block (sA (xL7 3 zai rfl rfl ?_))))))))
 refine xmi rfl (TL.call [0,1,2] [0,1,2,7,8] (zlj hl hB hF hlv) ⟨rfl,rfl,trivial⟩ ⟨rfl,rfl,rfl,trivial⟩ zrg rfl rfl rfl rfl ?_)
 rintro x6 Bs ⟨wv,W,Rs,IA,rfl,rfl,hR,hRt⟩
 refine ⟨rfl,trivial,?_⟩
 refine TL.ownW 7 rfl (fun aw gw cw hvw hcw haw=>?_)
 subst hvw
 have hRz:=hR.size
 have hle:=hRt.le hF
 refine xmu rfl (xes rfl rfl (xet rfl rfl (xas rfl (xat rfl (dB (xmt rfl (xnt rfl (xmf rfl ?_))))))))
 refine xL7 3 zai rfl rfl (xms rfl (xmi rfl (xms rfl (TL.callD [0,1,2,7,8,6] [0,1,2,7,8,6] (znp hl hB hF hlv ham (zab ham) hDmz hDmx haw (zab haw) rfl hR hRt) ⟨rfl,rfl,rfl,rfl,trivial⟩ ⟨rfl,rfl,rfl,rfl,rfl,rfl,trivial⟩ zrf rfl rfl rfl rfl rfl trivial (xnt rfl (xpF rfl (dF rfl (xL7 3 zai rfl rfl ?_))))))))
 refine xmv rfl (xmi rfl (TL.call [0,1,2,4] [0,1,2,4,9] (znm hl hB hIR hME) ⟨rfl,rfl,rfl,trivial⟩ ⟨rfl,rfl,rfl,rfl,trivial⟩ zre rfl rfl rfl rfl ?_))
 rintro x7 Bs ⟨Dg,rfl,hDgz,hDgx⟩
 refine ⟨rfl,trivial,?_⟩
 refine TL.ownW 9 rfl (fun ag gg cg hvg hcg hag=>?_)
 subst hvg
 refine xas rfl (dB (xai rfl (dK (TC.loopK (X:=Nat) [1,2,5,10,11,12,13,15] [0,1,2,3,4,5,6,7,8,9] (fun r=>[(16,.int .i64 ((r:Nat):Int))]) (fun r=>[]) (fun r=>r≤W.size) (fun r=>W.size - r) (0) (Nat.zero_le _) ⟨rfl,trivial⟩ trivial (fun r hI=>(TC.sub (env':=[(16,_),(1,_),(2,_),(5,_),(10,_),(11,_),(12,_),(13,_),(15,_)]) (L':=[(0,_),(1,_),(2,_),(3,_),(4,_),(5,_),(6,_),(7,_),(8,_),(9,_)]) ⟨rfl,rfl,rfl,rfl,rfl,rfl,rfl,rfl,rfl,trivial⟩ ⟨rfl,rfl,rfl,rfl,rfl,rfl,rfl,rfl,rfl,rfl,trivial⟩ (sB (xmi rfl (xms rfl ?_)))))))))
 refine xz zbG rfl (TL.lss rfl rfl rfl rfl (fun q4=>?_) (fun q4=>?_))
 refine TL.done (TQ.then (TC.condT rfl (TC.skip (TQ.then (TC.seq (TC.block (TC.seq (TC.seq ?_))))))))
 obtain ⟨w1,w2,bw,w3,w4⟩:=hR.at_ r (by omega)
 obtain ⟨x,x1,x2,x3,x4,x5⟩:=hRt.of r (by have:=hR.size; omega)
 rw [x5] at w1
 have hwf:∀ j,j<W[r]!.n→(fun q=>Rs[r]!.list[q]!) j=(F x).list[j]!:=fun j _=>by show Rs[r]!.list[j]! =_; rw [x5]
 have hw5:=hF.rowLen hl x1
 refine TC.draw [(0,true),(1,true),(2,true),(3,true),(4,true),(5,true),(6,true),(7,false),(8,true)] [3,7] fc_m (by kernel_rfl) (xL7 3 zai rfl rfl (xms rfl (xmi rfl (TL.iaO rfl haw rfl zbG (by omega) rfl rfl (TL.ldRS 7 (.slice _ _ _) rfl rfl (zab haw) (by omega) (rfl) zgy rfl rfl (xms rfl (xmi rfl (TL.callD [0,1,2,8,9] [0,1,2,8,9] (zlk hl hB hIR ⟨by omega,by omega⟩ x1 x3 w3 w4 w1 hwf hag (zab hag) (by omega) hDgx) ⟨rfl,rfl,rfl,rfl,trivial⟩ ⟨rfl,rfl,rfl,rfl,rfl,trivial⟩ zrd rfl rfl rfl rfl rfl (kL2 rfl rfl trivial) ?_))))))))
 refine xnt rfl (dF rfl (xai rfl (dB (xai rfl (dK (TC.loopK (X:=Nat) [1,2,5,10,11,12,13,15,16] [0,1,2,3,4,5,6,7,8,9] (fun k=>[(18,.int .i64 ((k:Nat):Int)),(17,.int .i64 (((vsL l ((F x).list.take k)).length:Nat):Int))]) (fun k=>[]) (fun k=>k≤W[r]!.n) (fun k=>W[r]!.n - k) (0) (Nat.zero_le _) ⟨rfl,rfl,trivial⟩ trivial (fun k hI=>(TC.sub (env':=[(18,_),(17,_),(1,_),(2,_),(5,_),(10,_),(11,_),(12,_),(13,_),(15,_),(16,_)]) (L':=[(0,_),(1,_),(2,_),(3,_),(4,_),(5,_),(6,_),(7,_),(8,_),(9,_)]) ⟨rfl,rfl,rfl,rfl,rfl,rfl,rfl,rfl,rfl,rfl,rfl,trivial⟩ ⟨rfl,rfl,rfl,rfl,rfl,rfl,rfl,rfl,rfl,rfl,trivial⟩ (sB ?_)))))))))
 refine xmi rfl (xms rfl (xmi rfl (TL.iaO rfl haw rfl zbG (by omega) rfl rfl (TL.ldRS 7 (.slice _ _ _) rfl rfl (zab haw) (by omega) (rfl) zgy rfl rfl (xz zae rfl (TL.lss rfl rfl rfl rfl (fun q5=>?_) (fun q5=>?_)))))))
 refine TL.done (TQ.then (TC.condT rfl (TC.skip (TQ.then (TC.seq (TC.block (TC.seq ?_)))))))
 have hlvX:=zeG hl hIR ⟨by omega,by omega⟩ x1 x3
 have hkl:k<(F x).list.length:=by have:W[r]!.n=(F x).list.length:=w1; omega
 have hnz:l.nd Rs[r]!.list[k]!:=by rw [x5,getElem!_pos _ k hkl]; exact (hlvX _ (List.getElem_mem _)).1
 obtain ⟨z,hz⟩:=Int.eq_ofNat_of_zero_le (show (0:Int)≤Rs[r]!.list[k]! from by have:=hnz; have:=this.1; omega)
 have hzk:(F x).list[k]! =(z:Int):=by rw [←x5,hz]
 rw [hz] at hnz
 have hnz1:=hnz.1
 have hnz2:=hnz.2
 have hfz:=hB.hfx (z - 1) (by omega)
 rw [show (((z - 1:Nat):Int)+1)=(z:Int) by omega] at hfz
 have hvt:=zj5 (l:=l) hkl
 rw [hzk] at hvt
 have hvl:=zhy (l:=l) ((F x).list.take k)
 have htl:((F x).list.take k).length≤k:=List.length_take_le _ _
 refine TC.draw [(0,true),(1,true),(2,true),(3,true),(4,true),(5,true),(6,true),(7,true),(8,true),(9,true),(10,true),(11,true),(12,true),(13,true)] [2,3,7,8] fc_m (by kernel_rfl) (xf 6 zby rfl (xls 3 za1 rfl rfl (xms rfl (xmi rfl (TL.iaO rfl haw rfl zbG (by omega) rfl rfl (TL.ldRS 7 (.slice _ _ _) rfl rfl (zab haw) (by omega) (rfl) zgy rfl rfl (xmi rfl (TL.iaO rfl w3 rfl zae (by omega) rfl rfl ?_))))))))
 refine TL.ldRS 8 (.int .i64 (z:Int)) rfl rfl w4 (by omega) (by rw [hz]; rfl) zaa rfl rfl (TL.sub (((z - 1:Nat):Int)) rfl rfl (wrN (by omega)) rfl rfl (TL.iaO rfl hB.hx rfl zaf (by omega) rfl rfl (xf 0 zcw rfl (TL.ldRF 2 (.int _ _) rfl rfl hB.hX (by omega) (zeS _).1 rfl zaa rfl rfl (TL.eql rfl rfl rfl rfl (fun q6=>?_) (fun q6=>?_))))))
 refine TL.done (TQ.then (TC.condT rfl (TC.region (xmi rfl (TL.add ((((vsL l ((F x).list.take k)).length+1:Nat):Int)) rfl rfl (wrN (by omega)) rfl rfl (xai rfl (dI (xmi rfl ?_))))))))
 refine TL.add (((k+1:Nat):Int)) rfl rfl (wrN (by omega)) rfl rfl (xai rfl (TL.done (TQ.roundK (k+1) ⟨by omega,by omega⟩ ⟨rfl,congrArg (fun z:Nat=>some (Value.int .i64 (z:Int))) (by rw [hvt,(hfz.vtx hl (by omega)).2]; simp),trivial⟩ trivial (kE8 rfl rfl rfl rfl rfl rfl rfl rfl (kE1 rfl trivial)) (kL8 rfl rfl rfl rfl rfl rfl rfl rfl (kL2 rfl rfl trivial)))))
 refine TL.done (TQ.then (TC.condF rfl (TC.skip (TQ.inBlock (TQ.then (TC.region (xmi rfl (TL.add (((k+1:Nat):Int)) rfl rfl (wrN (by omega)) rfl rfl ?_))))))))
 refine xai rfl (TL.done (TQ.roundK (k+1) ⟨by omega,by omega⟩ ⟨rfl,congrArg (fun z:Nat=>some (Value.int .i64 (z:Int))) (by rw [hvt,(hfz.arcs hl (by omega)).2.2.2]; simp),trivial⟩ trivial (kE8 rfl rfl rfl rfl rfl rfl rfl rfl (kE1 rfl trivial)) (kL8 rfl rfl rfl rfl rfl rfl rfl rfl (kL2 rfl rfl trivial))))
 refine dE rfl (TC.seq ?_)
 rw [show (F x).list.take k=(F x).list from List.take_of_length_le (by have:W[r]!.n=(F x).list.length:=w1; omega)]
 refine TC.region (xmb rfl (TL.cases rfl (fun q6=>?_) (fun q6=>?_)))
 refine xmt rfl (xmi rfl (xmi rfl (TL.gtrF rfl rfl (by have:=vs_le hl hIR ⟨by omega,by omega⟩ x1 x3 (hst (by assumption) i (by omega)).1; omega) rfl rfl (xpG rfl (TL.done (TQ.then (TC.condF rfl (TC.skip ?_))))))))
 refine TQ.inBlock (TQ.then (TC.region (xmi rfl (TL.add (((r+1:Nat):Int)) rfl rfl (wrN (by omega)) rfl rfl (xai rfl (TL.done (TQ.roundK (r+1) ⟨by omega,by omega⟩ ⟨rfl,trivial⟩ trivial (kE8 rfl rfl rfl rfl rfl rfl rfl rfl trivial) (kL8 rfl rfl rfl rfl rfl rfl rfl rfl (kL2 rfl rfl trivial)))))))))
 refine xmf rfl (xo rfl (xo rfl (xo rfl (xpF rfl (TL.done (TQ.then (TC.condF rfl (TC.skip ?_))))))))
 refine TQ.inBlock (TQ.then (TC.region (xmi rfl (TL.add (((r+1:Nat):Int)) rfl rfl (wrN (by omega)) rfl rfl (xai rfl (TL.done (TQ.roundK (r+1) ⟨by omega,by omega⟩ ⟨rfl,trivial⟩ trivial (kE8 rfl rfl rfl rfl rfl rfl rfl rfl trivial) (kL8 rfl rfl rfl rfl rfl rfl rfl rfl (kL2 rfl rfl trivial)))))))))
 refine dE rfl (sB (xai rfl (dK (TC.loopK (X:=Nat) [1,2,5,10,11,12,15] [0,1,2,3,4,5,6,7,8,9] (fun j=>[(19,.int .i64 ((j:Nat):Int))]) (fun j=>[]) (fun j=>j≤E.size) (fun j=>E.size - j) (0) (Nat.zero_le _) ⟨rfl,trivial⟩ trivial (fun j hI=>(TC.sub (env':=[(19,_),(1,_),(2,_),(5,_),(10,_),(11,_),(12,_),(15,_)]) (L':=[(0,_),(1,_),(2,_),(3,_),(4,_),(5,_),(6,_),(7,_),(8,_),(9,_)]) ⟨rfl,rfl,rfl,rfl,rfl,rfl,rfl,rfl,trivial⟩ ⟨rfl,rfl,rfl,rfl,rfl,rfl,rfl,rfl,rfl,rfl,trivial⟩ (sB (xmb rfl (TL.cases rfl (fun q5=>?_) (fun q5=>?_))))))))))
 refine xmt rfl (xmi rfl (xmv rfl (xz zah rfl (TL.lss rfl rfl rfl rfl (fun q6=>?_) (fun q6=>?_)))))
 refine xpT rfl (TL.done (TQ.then (TC.condT rfl (TC.skip (TQ.then (TC.seq (TC.block (TC.seq ?_))))))))
 have hro:=hME.row j (by omega)
 refine TC.draw [(0,true),(1,true),(2,true),(3,true),(4,true),(5,true),(6,true),(7,true),(8,true),(9,true),(10,true),(11,true),(12,true),(13,true),(14,true),(15,true),(16,true),(17,true),(18,true),(19,true),(20,true),(21,true),(22,true),(23,true),(24,true),(25,true),(26,true),(27,false),(28,true),(29,true)] [4] fc_m (by kernel_rfl) (xmv rfl (xmi rfl (TL.iaO rfl ha9 rfl zah (by omega) rfl rfl (xf 4 zek rfl (TL.ldRF 4 (.bool _) rfl rfl (zab ha9) (by omega) (zbg _).1 rfl zfj rfl rfl (TL.not _ _ rfl rfl rfl rfl (xmb rfl (TL.cases rfl (fun q7=>?_) (fun q7=>?_)))))))))
 refine xmv rfl (xmi rfl (TL.iaO rfl ha9 rfl zah (by omega) rfl rfl (xf 3 zcS rfl (TL.ldRF 4 (.int _ _) rfl rfl (zab ha9) (by omega) (zbg _).1 rfl zaa rfl rfl (xmi rfl (TL.geq rfl rfl rfl rfl (fun q8=>?_) (fun q8=>?_)))))))
 refine xpT rfl (xmt rfl (xms rfl (xmv rfl (xmi rfl (TL.iaO rfl ha9 rfl zah (by omega) rfl rfl (xf 1 zb6 rfl (TL.ldRF 4 (.int _ _) rfl rfl (zab ha9) (by omega) (zbg _).1 rfl zaa rfl rfl (xmv rfl ?_))))))))
 refine xmi rfl (TL.iaO rfl ha9 rfl zah (by omega) rfl rfl (xf 2 zbx rfl (TL.ldRF 4 (.int _ _) rfl rfl (zab ha9) (by omega) (zbg _).1 rfl zaa rfl rfl (TL.callD [9] [9] (zeh hag (zab hag) (by omega)) ⟨rfl,rfl,rfl,trivial⟩ ⟨rfl,trivial⟩ zhm rfl rfl rfl rfl rfl (kL1 rfl trivial) ?_))))
 rw [(zhZ (l:=l) (by omega) (fun q hq=>⟨(hEd.rng q hq.1).1,(hEd.rng q hq.1).2.1.1⟩) hDgx).2 (by rw [←hro.2.1,←hro.2.2.1]; exact (hst (by assumption) i (by omega)).2 _ hro.1 (by rw [hro.2.2.2.2]; simp_all) (by rw [hro.2.2.2.1]; omega))]
 refine xnt rfl (xpG rfl (TL.done (TQ.then (TC.condF rfl (TC.skip (TQ.inBlock (TQ.then (TC.region ?_))))))))
 refine xmi rfl (TL.add (((j+1:Nat):Int)) rfl rfl (wrN (by omega)) rfl rfl (xai rfl (TL.done (TQ.roundK (j+1) ⟨by omega,by omega⟩ ⟨rfl,trivial⟩ trivial (kE7 rfl rfl rfl rfl rfl rfl rfl trivial) (kL8 rfl rfl rfl rfl rfl rfl rfl rfl (kL2 rfl rfl trivial))))))
 refine xpG rfl (xmf rfl (xo rfl (xo rfl (xo rfl (xo rfl (xo rfl (xo rfl (xo rfl ?_))))))))
 refine xo rfl (xo rfl (xo rfl (xo rfl (xo rfl (xo rfl (xpF rfl (TL.done (TQ.then ?_))))))))
 refine TC.condF rfl (TC.skip (TQ.inBlock (TQ.then (TC.region (xmi rfl (TL.add (((j+1:Nat):Int)) rfl rfl (wrN (by omega)) rfl rfl (xai rfl (TL.done ?_))))))))
 refine TQ.roundK (j+1) ⟨by omega,by omega⟩ ⟨rfl,trivial⟩ trivial (kE7 rfl rfl rfl rfl rfl rfl rfl trivial) (kL8 rfl rfl rfl rfl rfl rfl rfl rfl (kL2 rfl rfl trivial))
 refine xo rfl (xo rfl (xo rfl (xo rfl (xo rfl (xo rfl (xo rfl (xpF rfl (xmf rfl ?_))))))))
 refine xo rfl (xo rfl (xo rfl (xo rfl (xo rfl (xo rfl (xo rfl (xo rfl (xo rfl ?_))))))))
 refine xo rfl (xo rfl (xo rfl (xo rfl (xpF rfl (TL.done (TQ.then (TC.condF rfl (TC.skip ?_))))))))
 refine TQ.inBlock (TQ.then (TC.region (xmi rfl (TL.add (((j+1:Nat):Int)) rfl rfl (wrN (by omega)) rfl rfl (xai rfl (TL.done (TQ.roundK (j+1) ⟨by omega,by omega⟩ ⟨rfl,trivial⟩ trivial (kE7 rfl rfl rfl rfl rfl rfl rfl trivial) (kL8 rfl rfl rfl rfl rfl rfl rfl rfl (kL2 rfl rfl trivial)))))))))
 refine xpG rfl (dE rfl (TC.region (xmi rfl (TL.quo (((m / 2:Nat):Int)) rfl rfl (by omega) (zqP (by omega)) rfl rfl (xai rfl (dI (xmi rfl (TL.add (((i+1:Nat):Int)) rfl rfl (wrN (by omega)) rfl rfl ?_))))))))
 refine xai rfl (TL.done (TQ.roundK ((i+1,m / 2)) ⟨⟨(show ((i+1:Nat):Int)≤l.lev by omega),hm2⟩,(show l.lev.toNat - (i+1)<l.lev.toNat - i by omega)⟩ ⟨rfl,rfl,trivial⟩ trivial (kE4 rfl rfl rfl rfl trivial) (kL7 rfl rfl rfl rfl rfl rfl rfl trivial)))
 refine xmf rfl (xo rfl (xo rfl (xo rfl (xo rfl (xpF rfl (dE rfl (TC.region (xmi rfl ?_))))))))
 refine TL.quo (((m / 2:Nat):Int)) rfl rfl (by omega) (zqP (by omega)) rfl rfl (xai rfl (dI (xmi rfl (TL.add (((i+1:Nat):Int)) rfl rfl (wrN (by omega)) rfl rfl (xai rfl (TL.done (TQ.roundK ((i+1,m / 2)) ⟨⟨(show ((i+1:Nat):Int)≤l.lev by omega),hm2⟩,(show l.lev.toNat - (i+1)<l.lev.toNat - i by omega)⟩ ⟨rfl,rfl,trivial⟩ trivial (kE4 rfl rfl rfl rfl trivial) (kL7 rfl rfl rfl rfl rfl rfl rfl trivial))))))))
 refine dE rfl (sA (xat rfl (dR ?_)))
 refine FQ.ret1 (v:=(.bool true)) (Bs:=[_,_,_]) [0,1,2] rfl rfl rfl ⟨rfl,rfl,rfl,trivial⟩ ?_
 exact ⟨rfl,rfl⟩
theorem zf2 {a:Option Addr} {b off n c:Nat} {A:Assn} {f:Nat→EdR} (ha:0<n→a=some ⟨b,off,none⟩) (hA:zaW A encE 5 b off n f) (hn:n≤300) {u v:Int}:FnD Tryz.prog 41 [.slice a n c,.int .i64 u,.int .i64 v] [A] (.bool (jnB f n u v)) [A]:=by
 refine Fn.enter (Tryz.func41) rfl rfl (fun w0 R=>?_)
 refine sA (xaf rfl (dA (TL.asg (.slice none 0 0) rfl rfl rfl (dS (TC.seq (TC.nilA 1 (A:=ownA encP 2 70 (.slice none 0 0) #[]) (.inl ⟨rfl,rfl⟩) (TC.region (xai rfl ?_))))))))
 refine dK (TC.loopK (X:=Nat×Value) [0,1,2,6] [0] (fun ⟨i,x⟩=>[(8,.int .i64 ((i:Nat):Int)),(7,x)]) (fun ⟨i,x⟩=>[(1,ownA encP 2 70 x (prN f i))]) (fun ⟨i,x⟩=>i≤n) (fun ⟨i,x⟩=>n - i) ((0,.slice none 0 0)) (Nat.zero_le _) ⟨rfl,rfl,trivial⟩ ⟨rfl,trivial⟩ (fun y hI=>?_))
 obtain ⟨i,x⟩:=y
 replace hI:i≤n:=hI
 refine TC.sub (env':=[(8,_),(7,_),(0,_),(1,_),(2,_),(6,_)]) (L':=[(1,_),(0,_)]) ⟨rfl,rfl,rfl,rfl,rfl,rfl,trivial⟩ ⟨rfl,rfl,trivial⟩ (sB (xmi rfl (xms rfl (xz zah rfl (TL.lss rfl rfl rfl rfl (fun q1=>?_) (fun q1=>?_))))))
 refine TL.done (TQ.then (TC.condT rfl (TC.skip (TQ.then (TC.seq (TC.block (TC.draw [(0,true),(1,true),(2,true),(3,true),(4,true),(5,true),(6,true),(7,true),(8,true),(9,true),(10,true),(11,true),(12,false),(13,false),(14,true)] [0] fc_m (by kernel_rfl) (xmv rfl ?_))))))))
 refine xms rfl (xmi rfl (TL.iaO rfl ha rfl zah (by omega) rfl rfl (xf 1 zb6 rfl (TL.ldRF 0 (.int _ _) rfl rfl hA (by omega) (zbg _).1 rfl zaa rfl rfl (xms rfl (xmi rfl (TL.iaO rfl ha rfl zah (by omega) rfl rfl (xf 2 zbx rfl ?_))))))))
 refine TL.ldRF 0 (.int _ _) rfl rfl hA (by omega) (zbg _).1 rfl zaa rfl rfl (TL.bldA [.int .i64 0,.int .i64 0] [(.int _ _),(.int _ _)] [_,_] zgw zaQ ⟨rfl,rfl,trivial⟩ ⟨rfl,rfl⟩ rfl rfl (TL.bsN 2 [_] (encP ((f i).u,(f i).v)) zaY zgw ⟨rfl,trivial⟩ rfl (lit1 rfl) rfl rfl (fun bk2=>⟨(kL1 rfl trivial),?_⟩)))
 refine TL.appS 1 2 (d2:=#[((f i).u,(f i).v)]) rfl (rfl) rfl (fun _=>rfl) rfl rfl (row1 rfl) zkF (by decide) zd1 (by rw [zeb]; simp; omega) rfl rfl (fun v3=>⟨(kL1 rfl trivial),?_⟩)
 refine xav rfl (dI (xmi rfl (TL.add (((i+1:Nat):Int)) rfl rfl (wrN (by omega)) rfl rfl (xai rfl (TL.done (TQ.roundK ((i+1,_)) ⟨(show i+1≤n by omega),(show n - (i+1)<n - i by omega)⟩ ⟨rfl,rfl,trivial⟩ ⟨rfl,trivial⟩ (kE4 rfl rfl rfl rfl trivial) (kL1 rfl trivial)))))))
 refine dE rfl (TC.seq ?_)
 obtain rfl:i=n:=by omega
 have hps:=zeb (f:=f) (n:=i)
 refine TC.ownW 1 rfl (fun a8 g8 c8 hv8 hc8 ha8=>?_)
 cases hv8
 refine TC.region (xmv rfl (xmi rfl (xmi rfl (TL.callD [1] [1] (zeh ha8 (zab ha8) (by omega)) ⟨rfl,rfl,rfl,trivial⟩ ⟨rfl,trivial⟩ zhm rfl rfl rfl rfl rfl trivial (xab rfl (dR ?_))))))
 refine FQ.ret1 (v:=(.bool _)) (Bs:=[A]) [0] rfl rfl rfl ⟨rfl,trivial⟩ ?_
 exact ⟨rfl,rfl⟩
theorem zdZ {a:Option Addr} {b off n c:Nat} {A:Assn} {f:Nat→EdR} (ha:0<n→a=some ⟨b,off,none⟩) (hA:zaW A encE 5 b off n f) (hn:n≤1000) {s:Int}:FnD Tryz.prog 42 [.slice a n c,.int .i64 s] [A] (.agg #[.int .i64 (fdE f s n).slot,.int .i64 (fdE f s n).u,.int .i64 (fdE f s n).v,.int .i64 (fdE f s n).lv,.bool (fdE f s n).tr]) [A]:=by
 refine Fn.enter (Tryz.func42) rfl rfl (fun w0 R=>?_)
 refine sA (TL.alloc 1 (cs:=#[.int .i64 0,.int .i64 0,.int .i64 0,.int .i64 0,.bool false]) zc0 rfl rfl rfl (fun _=>trivial) (fun bk1=>(dB (xms rfl (xz zah rfl (xmi rfl (dK (TC.loopK (X:=Nat) [1,4,7,8] [0,1] (fun i=>[(9,.int .i64 ((i:Nat):Int))]) (fun i=>[]) (fun i=>i≤n∧∀ j,j<i→(f j).slot≠s) (fun i=>n - i) (0) ⟨Nat.zero_le _,fun j hj=>absurd hj (Nat.not_lt_zero _)⟩ ⟨rfl,trivial⟩ trivial (fun i hI=>?_)))))))))
 obtain ⟨hi,hno⟩:=hI
 refine TC.sub (env':=[(9,_),(1,_),(4,_),(7,_),(8,_)]) (L':=[(0,_),(1,_)]) ⟨rfl,rfl,rfl,rfl,rfl,trivial⟩ ⟨rfl,rfl,trivial⟩ (sA (TL.lss rfl rfl rfl rfl (fun q1=>?_) (fun q1=>?_)))
 refine dS (TC.condT rfl (TC.skip (TQ.then (TC.seq (TC.block (sA (TL.iaO rfl ha rfl zah (by omega) rfl rfl (TL.ldRx 0 [_,_,_,_,_] rfl rfl hA (by omega) rfl zaV rfl rfl ?_))))))))
 refine TL.alloc 2 (cs:=#[.int .i64 0,.int .i64 0,.int .i64 0,.int .i64 0,.bool false]) zc0 rfl rfl rfl (fun _=>trivial) (fun bk2=>(TL.stW 2 5 [_,_,_,_,_] rfl rfl rfl rfl rfl rfl zaV rfl rfl trivial (dA (xf 0 zaS rfl (xli 2 zaa rfl rfl (xmi rfl (TL.eql rfl rfl rfl rfl (fun q2=>?_) (fun q2=>?_))))))))
 refine dT rfl (xL5 2 zaV rfl rfl (TL.stW 1 5 [_,_,_,_,_] rfl rfl rfl rfl rfl rfl zaV rfl rfl trivial (dR (TQ.blockRet (TQ.thenRet (TQ.thenRet (TQ.blockRet (TQ.thenRet ?_))))))))
 refine FQ.retG (rs:=[.cell 4 65]) [(.agg _)] (Bs:=[A]) [0] rfl ⟨⟨_,_,_,_,_,1,rfl,rfl,.inr ⟨5,[_,_,_,_,_],zaV,rfl,rfl⟩⟩,trivial⟩ rfl rfl ⟨rfl,trivial⟩ ?_
 exact ⟨by rw [zoN (i:=i) (by omega) (by assumption) hno]; rfl,rfl⟩
 refine TL.done (TQ.then (TC.condF rfl (TC.skip (TQ.inBlock (TQ.then (TC.region (TL.add (((i+1:Nat):Int)) rfl rfl (wrN (by omega)) rfl rfl (xmi rfl ?_))))))))
 refine TL.done (TQ.roundK (i+1) ⟨⟨by omega,fun j hj=>by by_cases he:j=i; subst he; assumption; exact hno j (by omega)⟩,by omega⟩ ⟨rfl,trivial⟩ trivial (kE4 rfl rfl rfl rfl trivial) (kL2 rfl rfl trivial))
 refine dS (TC.condF rfl (TC.exit (TQ.thenExit (TQ.thenExit (TQ.blockHere (TQ.then (sA (TL.bld [.int .i64 0,.int .i64 0,.int .i64 0,.int .i64 0,.bool false] [] [_,_,_,_,_] zc0 zmF trivial ⟨rfl,rfl⟩ rfl rfl ?_))))))))
 refine TL.stW 1 5 [_,_,_,_,_] rfl rfl rfl rfl rfl rfl zaV rfl rfl trivial (dR ?_)
 refine FQ.retG (rs:=[.cell 4 65]) [(.agg _)] (Bs:=[A]) [0] rfl ⟨⟨_,_,_,_,_,1,rfl,rfl,.inr ⟨5,[_,_,_,_,_],zaV,rfl,rfl⟩⟩,trivial⟩ rfl rfl ⟨rfl,trivial⟩ ?_
 exact ⟨by rw [zqQ (fun j hj=>hno j (by omega))]; rfl,rfl⟩
theorem zbR {pb ab:Nat} {v:Value} {d:Array EdR} {l:Lay} (hl:l.Ok) (hd:d.size≤100) {a b:Int}  : FnD Tryz.prog 44 [.pointer (some ⟨pb,0,none⟩),.int .i64 a,.int .i64 b] [pt pb (.cells #[.int .i64 l.V,.int .i64 l.S,.int .i64 l.T,.pointer (some ⟨ab,0,none⟩),.int .i64 l.V,.int .i64 l.S,.int .i64 l.T,.iface 107 (.agg #[.pointer (some ⟨ab,0,none⟩)]),.int .i64 1,.int .i64 0,.int .i64 l.V,.int .i64 l.S,.int .i64 l.T,.iface 107 (.agg #[.pointer (some ⟨ab,0,none⟩)]),v] 90),ownA encE 5 65 v d] (.int .i64 (fsN (bwB d a b) d.size)) [pt pb (.cells #[.int .i64 l.V,.int .i64 l.S,.int .i64 l.T,.pointer (some ⟨ab,0,none⟩),.int .i64 l.V,.int .i64 l.S,.int .i64 l.T,.iface 107 (.agg #[.pointer (some ⟨ab,0,none⟩)]),.int .i64 1,.int .i64 0,.int .i64 l.V,.int .i64 l.S,.int .i64 l.T,.iface 107 (.agg #[.pointer (some ⟨ab,0,none⟩)]),v] 90),ownA encE 5 65 v d]:=by
 refine Fn.enter (Tryz.func44) rfl rfl (fun w0 R=>?_)
 refine sA (xai rfl (dS (TC.seq (TC.ownW 1 rfl (fun a9 g9 c9 hv9 hc9 ha9=>?_)))))
 cases hv9
 refine TC.region (xmp rfl (xN0 rfl (xf 14 zay rfl (xlv 0 zbw rfl rfl (xz zah rfl (xmi rfl (dK (TC.loopK (X:=Nat) [1,2,12,13] [0,1] (fun i=>[(14,.int .i64 ((i:Nat):Int))]) (fun i=>[]) (fun i=>i≤d.size∧∀ j,j<i→bwB d a b j=false) (fun i=>d.size - i) (0) ⟨Nat.zero_le _,fun j hj=>absurd hj (Nat.not_lt_zero _)⟩ ⟨rfl,trivial⟩ trivial (fun i hI=>?_)))))))))
 obtain ⟨hi,hno⟩:=hI
 refine TC.sub (env':=[(14,_),(1,_),(2,_),(12,_),(13,_)]) (L':=[(0,_),(1,_)]) ⟨rfl,rfl,rfl,rfl,rfl,trivial⟩ ⟨rfl,rfl,trivial⟩ (sA (TL.lss rfl rfl rfl rfl (fun q1=>?_) (fun q1=>?_)))
 refine dS (TC.condT rfl (TC.skip (TQ.then (TC.seq (TC.block (sA (xmi rfl (TL.iaO rfl ha9 rfl zah (by omega) rfl rfl ?_))))))))
 refine TL.ldRx 1 [_,_,_,_,_] rfl rfl (zab ha9) (by omega) rfl zaV rfl rfl (TL.alloc 2 (cs:=#[.int .i64 0,.int .i64 0,.int .i64 0,.int .i64 0,.bool false]) zc0 rfl rfl rfl (fun _=>trivial) (fun bk2=>(xai rfl (TL.stW 2 5 [_,_,_,_,_] rfl rfl rfl rfl rfl rfl zaV rfl rfl trivial (dA (xf 1 zb6 rfl (xli 2 zaa rfl rfl (xmi rfl (xmi rfl ?_)))))))))
 refine TL.min2 rfl rfl rfl rfl (TL.eql rfl rfl rfl rfl (fun q2=>?_) (fun q2=>?_))
 refine xmt rfl (xf 2 zbx rfl (xli 2 zaa rfl rfl (xmi rfl (xmi rfl (TL.max2 rfl rfl rfl rfl (TL.eql rfl rfl rfl rfl (fun q3=>?_) (fun q3=>?_)))))))
 refine xpT rfl (dT rfl (xmi rfl (xai rfl (dR (TQ.blockRet (TQ.thenRet (TQ.thenRet (TQ.blockRet ?_))))))))
 refine TQ.thenRet ?_
 refine FQ.ret1 (v:=(.int _ _)) (Bs:=[_,_]) [0,1] rfl rfl rfl ⟨rfl,rfl,trivial⟩ ?_
 exact ⟨iE (zmv (i:=i) (by omega) (decide_eq_true ⟨by assumption,by assumption⟩) hno).symm,rfl⟩
 refine xpG rfl (TL.done (TQ.then (TC.condF rfl (TC.skip (TQ.inBlock (TQ.then (TC.region (TL.add (((i+1:Nat):Int)) rfl rfl (wrN (by omega)) rfl rfl ?_))))))))
 refine xmi rfl (TL.done (TQ.roundK (i+1) ⟨⟨by omega,fun j hj=>by by_cases he:j=i; subst he; exact decide_eq_false (fun hc=>by obtain ⟨c1,c2⟩:=hc; contradiction); exact hno j (by omega)⟩,by omega⟩ ⟨rfl,trivial⟩ trivial (kE4 rfl rfl rfl rfl trivial) (kL2 rfl rfl trivial)))
 refine xmf rfl (xo rfl (xo rfl (xo rfl (xo rfl (xo rfl (xo rfl (xpF rfl (TL.done ?_))))))))
 refine TQ.then (TC.condF rfl (TC.skip (TQ.inBlock (TQ.then (TC.region (TL.add (((i+1:Nat):Int)) rfl rfl (wrN (by omega)) rfl rfl (xmi rfl (TL.done ?_))))))))
 refine TQ.roundK (i+1) ⟨⟨by omega,fun j hj=>by by_cases he:j=i; subst he; exact decide_eq_false (fun hc=>by obtain ⟨c1,c2⟩:=hc; contradiction); exact hno j (by omega)⟩,by omega⟩ ⟨rfl,trivial⟩ trivial (kE4 rfl rfl rfl rfl trivial) (kL2 rfl rfl trivial)
 refine dS (TC.condF rfl (TC.exit (TQ.thenExit (TQ.thenExit (TQ.blockHere (TQ.then (sA (xai rfl ?_))))))))
 refine dR ?_
 refine FQ.ret1 (v:=(.int _ _)) (Bs:=[_,_]) [0,1] rfl rfl rfl ⟨rfl,rfl,trivial⟩ ?_
 exact ⟨iE (zkq (fun j hj=>hno j (by omega))).symm,rfl⟩
theorem zcg {pb ab:Nat} {v:Value} {d:Array EdR} {l:Lay} (hl:l.Ok) (hd:d.size≤100)  : FnD Tryz.prog 43 [.pointer (some ⟨pb,0,none⟩)] [pt pb (.cells #[.int .i64 l.V,.int .i64 l.S,.int .i64 l.T,.pointer (some ⟨ab,0,none⟩),.int .i64 l.V,.int .i64 l.S,.int .i64 l.T,.iface 107 (.agg #[.pointer (some ⟨ab,0,none⟩)]),.int .i64 1,.int .i64 0,.int .i64 l.V,.int .i64 l.S,.int .i64 l.T,.iface 107 (.agg #[.pointer (some ⟨ab,0,none⟩)]),v] 90),ownA encE 5 65 v d] (.int .i64 (fsN (noS d) l.S)) [pt pb (.cells #[.int .i64 l.V,.int .i64 l.S,.int .i64 l.T,.pointer (some ⟨ab,0,none⟩),.int .i64 l.V,.int .i64 l.S,.int .i64 l.T,.iface 107 (.agg #[.pointer (some ⟨ab,0,none⟩)]),.int .i64 1,.int .i64 0,.int .i64 l.V,.int .i64 l.S,.int .i64 l.T,.iface 107 (.agg #[.pointer (some ⟨ab,0,none⟩)]),v] 90),ownA encE 5 65 v d]:=by
 have hlb:=zaU hl
 refine Fn.enter (Tryz.func43) rfl rfl (fun w0 R=>?_)
 refine sA (xai rfl (dB (xmp rfl (xN0 rfl (xf 0 zaB rfl (xf 1 zb7 rfl (xli 0 zaa rfl rfl (xmi rfl ?_))))))))
 refine dK (TC.loopK (X:=Nat) [0,11] [0,1] (fun s=>[(12,.int .i64 ((s:Nat):Int))]) (fun s=>[]) (fun s=>s≤l.S∧∀ q,q<s→noS d q=false) (fun s=>l.S - s) (0) ⟨Nat.zero_le _,fun j hj=>absurd hj (Nat.not_lt_zero _)⟩ ⟨rfl,trivial⟩ trivial (fun s hI=>?_))
 obtain ⟨hi,hno⟩:=hI
 refine TC.sub (env':=[(12,_),(0,_),(11,_)]) (L':=[(0,_),(1,_)]) ⟨rfl,rfl,rfl,trivial⟩ ⟨rfl,rfl,trivial⟩ (sA (TL.lss rfl rfl rfl rfl (fun q1=>?_) (fun q1=>?_)))
 refine dS (TC.condT rfl (TC.skip (TQ.then (TC.seq (TC.block (sA (xmi rfl (xai rfl ?_))))))))
 refine dA (xat rfl (dS (TC.seq (TC.ownW 1 rfl (fun a9 g9 c9 hv9 hc9 ha9=>?_)))))
 cases hv9
 refine TC.region (xmp rfl (xN0 rfl (xf 14 zay rfl (xlv 0 zbw rfl rfl (xz zah rfl (xmi rfl (dK (TC.loopK (X:=Nat×Bool) [0,3,11,12,18,19] [0,1] (fun ⟨j,b⟩=>[(20,.int .i64 ((j:Nat):Int)),(4,.bool b)]) (fun ⟨j,b⟩=>[]) (fun ⟨j,b⟩=>j≤d.size∧(b=true↔∀ k,k<j→d[k]!.slot≠(s:Int))) (fun ⟨j,b⟩=>d.size - j) ((0,true)) ⟨Nat.zero_le _,fun _ k hk=>absurd hk (Nat.not_lt_zero _),fun _=>rfl⟩ ⟨rfl,rfl,trivial⟩ trivial (fun y hI=>?_)))))))))
 obtain ⟨j,b⟩:=y
 obtain ⟨hj,hb⟩:=hI
 replace hj:j≤d.size:=hj
 replace hb:b=true↔∀ k,k<j→d[k]!.slot≠(s:Int):=hb
 refine TC.sub (env':=[(20,_),(4,_),(0,_),(3,_),(11,_),(12,_),(18,_),(19,_)]) (L':=[(0,_),(1,_)]) ⟨rfl,rfl,rfl,rfl,rfl,rfl,rfl,rfl,trivial⟩ ⟨rfl,rfl,trivial⟩ (sA (TL.lss rfl rfl rfl rfl (fun q2=>?_) (fun q2=>?_)))
 refine dS (TC.condT rfl (TC.skip (TQ.then (TC.seq (TC.block (sA (TL.iaO rfl ha9 rfl zah (by omega) rfl rfl (TL.ldRx 1 [_,_,_,_,_] rfl rfl (zab ha9) (by omega) rfl zaV rfl rfl ?_))))))))
 refine TL.alloc 2 (cs:=#[.int .i64 0,.int .i64 0,.int .i64 0,.int .i64 0,.bool false]) zc0 rfl rfl rfl (fun _=>trivial) (fun bk2=>(TL.stW 2 5 [_,_,_,_,_] rfl rfl rfl rfl rfl rfl zaV rfl rfl trivial (dG (xmb rfl (TL.cases rfl (fun q3=>?_) (fun q3=>?_))))))
 refine xmt rfl (xf 0 zaS rfl (xli 2 zaa rfl rfl (xmi rfl (TL.neqV rfl rfl rfl rfl (TL.pickT (.bool _) rfl rfl rfl rfl (xab rfl (dI (TL.add (((j+1:Nat):Int)) rfl rfl (wrN (by omega)) rfl rfl ?_))))))))
 refine xmi rfl (TL.done (TQ.roundK ((j+1,_)) ⟨⟨(show j+1≤d.size by omega),fr_t hb (by assumption)⟩,(show d.size - (j+1)<d.size - j by omega)⟩ ⟨rfl,rfl,trivial⟩ trivial (kE6 rfl rfl rfl rfl rfl rfl trivial) (kL2 rfl rfl trivial)))
 refine xmf rfl (xo rfl (xo rfl (xo rfl (xo rfl (xpF rfl (xaf rfl (dI (TL.add (((j+1:Nat):Int)) rfl rfl (wrN (by omega)) rfl rfl ?_))))))))
 refine xmi rfl (TL.done (TQ.roundK ((j+1,_)) ⟨⟨(show j+1≤d.size by omega),fr_f hb (by assumption)⟩,(show d.size - (j+1)<d.size - j by omega)⟩ ⟨rfl,rfl,trivial⟩ trivial (kE6 rfl rfl rfl rfl rfl rfl trivial) (kL2 rfl rfl trivial)))
 refine dS (TC.condF rfl (TC.exit (TQ.thenExit (TQ.thenExit (TQ.blockHere (TQ.then (sA (xmb rfl ?_))))))))
 refine TL.cases rfl (fun q3=>?_) (fun q3=>?_)
 refine dT rfl (xmi rfl (xai rfl (dR (TQ.blockRet (TQ.thenRet (TQ.thenRet (TQ.blockRet (TQ.thenRet ?_))))))))
 refine FQ.ret1 (v:=(.int _ _)) (Bs:=[_,_]) [0,1] rfl rfl rfl ⟨rfl,rfl,trivial⟩ ?_
 exact ⟨iE (zmv (i:=s) (by omega) (decide_eq_true (fun k hk=>hb.1 (by assumption) k (by omega))) hno).symm,rfl⟩
 refine TL.done (TQ.then (TC.condF rfl (TC.skip (TQ.inBlock (TQ.then (TC.region (TL.add (((s+1:Nat):Int)) rfl rfl (wrN (by omega)) rfl rfl (xmi rfl ?_))))))))
 refine TL.done (TQ.roundK (s+1) ⟨⟨by omega,fun q hq=>by by_cases he:q=s; subst he; exact decide_eq_false (fun hc=>by have:=hb.2 (fun k hk=>hc k (by omega)); simp_all); exact hno q (by omega)⟩,by omega⟩ ⟨rfl,trivial⟩ trivial (kE2 rfl rfl trivial) (kL2 rfl rfl trivial))
 refine dS (TC.condF rfl (TC.exit (TQ.thenExit (TQ.thenExit (TQ.blockHere (TQ.then (sA (xai rfl ?_))))))))
 refine dR ?_
 refine FQ.ret1 (v:=(.int _ _)) (Bs:=[_,_]) [0,1] rfl rfl rfl ⟨rfl,rfl,trivial⟩ ?_
 exact ⟨iE (zkq (fun j hj=>hno j (by omega))).symm,rfl⟩
set_option maxHeartbeats 1000000 in
theorem zfL {l:Lay} (hl:l.Ok) {da oa:Option Addr} {dn dc on oc:Nat} {Ad:Assn} {bd offd:Nat} {fd:Nat→Int} (hda:0<dn→da=some ⟨bd,offd,none⟩) (hAd:zaW Ad encU 1 bd offd dn fd) (hfd:∀ i,i<dn→0≤fd i∧fd i<18446744073709551616) (hdn:dn≤1000)  : Go.Eng.Fn Tryz.prog 36 [.agg #[.int .i64 l.V,.int .i64 l.S,.int .i64 l.T,.slice da dn dc,.slice oa on oc]] [Ad] (fun x Bs=>∃ pb ab mb,x=.pointer (some ⟨pb,0,none⟩)∧Bs=[Ad,pt pb (.cells #[.int .i64 l.V,.int .i64 l.S,.int .i64 l.T,.pointer (some ⟨ab,0,none⟩),.int .i64 l.V,.int .i64 l.S,.int .i64 l.T,.iface 107 (.agg #[.pointer (some ⟨ab,0,none⟩)]),.int .i64 1,.int .i64 0,.int .i64 l.V,.int .i64 l.S,.int .i64 l.T,.iface 107 (.agg #[.pointer (some ⟨ab,0,none⟩)]),.slice none 0 0] 90),zaC ab mb 149 110 (zet l dn fd l.nodes.toNat (Array.replicate l.cells.toNat 0)),ownA encE 5 65 (.slice none 0 0) #[]]):=by
 obtain ⟨N,hN⟩:∃ N:Nat,l.cells=(N:Int):=⟨l.cells.toNat,by have:=zaO hl; have:=zaz hl; have:=zcf hl; have:=zdn hl; omega⟩
 have hN2:l.cells.toNat=N:=by omega
 have hcb:=zaO hl
 have hnb:=zaz hl
 refine Fn.enter (Tryz.func36) rfl rfl (fun w0 R=>?_)
 refine sA (xB 1 rfl (fun bk1=>(TL.asg (.pointer none) rfl rfl rfl (dA (xf 0 zcu rfl (xL3 1 zaj rfl rfl (TL.alloc 2 (cs:=#[.int .i64 0,.int .i64 0,.int .i64 0]) zoS rfl rfl rfl (fun _=>trivial) (fun bk2=>(TL.stW 2 3 [_,_,_] rfl rfl rfl rfl rfl rfl zaj rfl rfl trivial (dA ?_))))))))))
 refine xL3 2 zaj rfl rfl (TL.callD [] [] (zkM hl) ⟨rfl,trivial⟩ trivial zo6 rfl rfl rfl rfl rfl trivial ?_)
 rw [hN]
 refine TL.call [] [3] (zqn (by omega)) ⟨rfl,trivial⟩ trivial zrn rfl rfl rfl rfl ?_
 rintro v Bs ⟨ab,mb,rfl,rfl⟩
 refine ⟨rfl,trivial,?_⟩
 rw [←hN2]
 refine xmu rfl (TL.ext (.pointer (some ⟨_,_,none⟩)) rfl rfl rfl rfl (xei rfl rfl (xap rfl (xai rfl (dB (xmi rfl (TL.neqF rfl rfl (by omega) rfl rfl (xmf rfl ?_))))))))
 refine xmp rfl (TL.nilP false rfl rfl zq7 rfl rfl rfl (xpF rfl (TL.done (TQ.then (TC.condF rfl (TC.skip (TQ.then (TC.seq ?_))))))))
 refine TC.drawT (.br [(0,true),(1,true),(4,true)] 2 6 (.fin [(3,true),(5,true),(6,false),(7,false)]) (.fin [(2,false),(3,true),(5,true),(7,false)])) [2] fc_m (by kernel_rfl) (TT.br (xL3 2 zaj rfl rfl (xmp rfl (TL.bld [.int .i64 0,.int .i64 0] [(.int _ _)] [_,_] zmA zmH ⟨rfl,trivial⟩ ⟨rfl,rfl⟩ rfl rfl (TL.both ?_ ?_)))))
 refine TL.callD [] [] zf4 ⟨rfl,trivial⟩ trivial zkx rfl rfl rfl rfl rfl (kL1 rfl trivial) (TL.tree (TT.fin (TL.miN (v:=(.agg _)) rfl zh5 rfl rfl (TL.bld [.int .i64 0,.int .i64 0,.int .i64 0,.nilIface,.int .i64 0,.int .i64 0] [(.agg _),(.iface _ _),(.agg _)] [_,_,_,_,_,_] ziW zmG ⟨rfl,rfl,rfl,trivial⟩ ⟨rfl,rfl⟩ rfl rfl (TL.alloc 4 (cs:=#[.int .i64 0,.int .i64 0,.int .i64 0,.nilIface,.int .i64 0,.int .i64 0]) ziW rfl rfl rfl (fun _=>(kL1 rfl trivial)) (fun bk4=>(TL.stW 4 6 [_,_,_,_,_,_] rfl rfl rfl rfl rfl rfl zad rfl rfl (kL1 rfl trivial) (dB (xai rfl (dK ?_))))))))))
 refine TC.loopK (X:=Nat) [1,2,3,4,6] [0,1,2,4] (fun x=>[(7,.int .i64 ((x+1:Nat):Int))]) (fun x=>[(3,zaC ab mb 149 110 (zet l dn fd x (Array.replicate l.cells.toNat 0)))]) (fun x=>(x:Int)≤l.nodes) (fun x=>l.nodes.toNat - x) (0) (by omega) ⟨rfl,trivial⟩ ⟨rfl,trivial⟩ (fun x hI=>(TC.sub (env':=[(7,_),(1,_),(2,_),(3,_),(4,_),(6,_)]) (L':=[(3,_),(0,_),(1,_),(2,_),(4,_)]) ⟨rfl,rfl,rfl,rfl,rfl,rfl,trivial⟩ ⟨rfl,rfl,rfl,rfl,rfl,trivial⟩ (sB (xmi rfl (xL3 2 zaj rfl rfl (TL.callD [] [] (ze9 hl) ⟨rfl,trivial⟩ trivial ziZ rfl rfl rfl rfl rfl trivial (TL.leq rfl rfl rfl rfl (fun q1=>?_) (fun q1=>?_))))))))
 refine TL.done (TQ.then (TC.condT rfl (TC.skip (TQ.then (TC.seq (TC.block (sB (xf 3 zct rfl ?_))))))))
 refine xls 1 zbB rfl rfl (xz zax rfl (TL.gtr rfl rfl rfl rfl (fun q2=>?_) (fun q2=>?_)))
 refine TL.done (TQ.then (TC.condT rfl (TC.draw [(0,true),(1,true),(2,true),(4,true),(5,true),(6,true),(7,true),(8,true),(9,true),(10,true),(11,true),(12,true),(3,false),(13,false)] [0,1,2] fc_m (by kernel_rfl) (xmp rfl (xL3 2 zaj rfl rfl (xmi rfl (xf 3 zct rfl (xls 1 zbB rfl rfl ?_))))))))
 refine xmi rfl (xf 3 zct rfl (xls 1 zbB rfl rfl (xz zax rfl (TL.rem ((((x+1) % dn:Nat):Int)) rfl rfl (by omega) (by rw [Int.tmod_eq_emod_of_nonneg (by omega)]; exact (Int.natCast_emod (x+1) dn).symm) rfl rfl (TL.iaO rfl hda rfl zax (Nat.mod_lt _ (by omega)) rfl rfl (TL.ldRS 0 (.int _ _) rfl rfl hAd (Nat.mod_lt _ (by omega)) (rfl) zeM rfl rfl (TL.callD [] [] (zch hl) ⟨rfl,rfl,rfl,trivial⟩ trivial zd2 rfl rfl rfl rfl rfl (kL3 rfl rfl rfl trivial) (TL.callD [3] [3] (zgW (hfd _ (Nat.mod_lt _ (by omega)))) ⟨rfl,rfl,rfl,trivial⟩ ⟨rfl,trivial⟩ zmM rfl rfl rfl rfl rfl (kL3 rfl rfl rfl trivial) ?_))))))))
 refine dG (xL6 4 zad rfl rfl (xmi rfl (TL.callD [3] [3] (zdi (p:=P1) zcl hl) ⟨rfl,rfl,trivial⟩ ⟨rfl,trivial⟩ zfV rfl rfl rfl rfl rfl trivial (dI (xmi rfl (TL.add (((x+2:Nat):Int)) rfl rfl (wrN (by omega)) rfl rfl (xai rfl (TL.done ?_))))))))
 refine TQ.roundK (x+1) ⟨(by omega),(by omega)⟩ ⟨rfl,trivial⟩ ⟨congrArg (fun z=>some (zaC ab mb 149 110 (z))) (zi7 (by omega)),trivial⟩ (kE5 rfl rfl rfl rfl rfl trivial) (kL4 rfl rfl rfl rfl trivial)
 refine TL.done (TQ.then (TC.condF rfl (TC.skip (TQ.then (TC.region (xL6 4 zad rfl rfl (xmi rfl (TL.callD [3] [3] (zdi (p:=P1) zcl hl) ⟨rfl,rfl,trivial⟩ ⟨rfl,trivial⟩ zfV rfl rfl rfl rfl rfl trivial ?_))))))))
 refine dI (xmi rfl (TL.add (((x+2:Nat):Int)) rfl rfl (wrN (by omega)) rfl rfl (xai rfl (TL.done (TQ.roundK (x+1) ⟨(by omega),(by omega)⟩ ⟨rfl,trivial⟩ ⟨congrArg (fun z=>some (zaC ab mb 149 110 (z))) (zhs (by omega)),trivial⟩ (kE5 rfl rfl rfl rfl rfl trivial) (kL4 rfl rfl rfl rfl trivial))))))
 refine dE rfl (TC.seq ?_)
 obtain rfl:x=l.nodes.toNat:=by omega
 refine TC.nilA 5 (A:=ownA encE 5 65 (.slice none 0 0) #[]) (.inl ⟨rfl,rfl⟩) (TC.draw [(0,true),(1,true),(2,true),(3,true),(6,true),(4,false),(5,true),(7,false),(8,true),(9,false),(10,true)] [2] fc_m (by kernel_rfl) (xL3 2 zaj rfl rfl (xmp rfl (xL3 2 zaj rfl rfl (xmp rfl (TL.bld [.int .i64 0,.int .i64 0] [(.int _ _)] [_,_] zmA zmH ⟨rfl,trivial⟩ ⟨rfl,rfl⟩ rfl rfl (TL.callD [] [] zf4 ⟨rfl,trivial⟩ trivial zkx rfl rfl rfl rfl rfl (kL1 rfl trivial) (TL.miN (v:=(.agg _)) rfl zh5 rfl rfl ?_))))))))
 refine TL.callD [] [] (zkn (p:=P1)) ⟨rfl,rfl,rfl,trivial⟩ trivial zoZ rfl rfl rfl rfl rfl (kL1 rfl trivial) (TL.bld [.int .i64 0,.int .i64 0,.int .i64 0,.pointer none,.int .i64 0,.int .i64 0,.int .i64 0,.nilIface,.int .i64 0,.int .i64 0,.int .i64 0,.int .i64 0,.int .i64 0,.nilIface,.slice none 0 0] [(.agg _),(.pointer (some ⟨_,_,none⟩)),(.agg _)] [_,_,_,_,_,_,_,_,_,_,_,_,_,_,_] zoO zoT ⟨rfl,rfl,rfl,trivial⟩ ⟨rfl,rfl⟩ rfl rfl (TL.boxA 6 rfl rfl rfl (fun _=>(kL1 rfl trivial)) (fun bk6=>(xap rfl (dR ?_)))))
 refine FQ.ret1 (v:=(.pointer (some ⟨_,_,none⟩))) (Bs:=[_,_,_,_]) [0,6,3,5] rfl rfl rfl ⟨rfl,rfl,rfl,rfl,trivial⟩ ?_
 exact ⟨_,_,_,rfl,rfl⟩
 refine TL.alloc 7 (cs:=#[.int .i64 0,.int .i64 0,.int .i64 0,.nilIface,.int .i64 0,.int .i64 0]) ziW rfl rfl rfl (fun _=>(kL1 rfl trivial)) (fun bk7=>(TL.tree (TT.fin (TL.callD [] [] zf4 ⟨rfl,trivial⟩ trivial zkx rfl rfl rfl rfl rfl (kL1 rfl trivial) (TL.miN (v:=(.agg _)) rfl zh5 rfl rfl (TL.bld [.int .i64 0,.int .i64 0,.int .i64 0,.nilIface,.int .i64 0,.int .i64 0] [(.agg _),(.iface _ _),(.agg _)] [_,_,_,_,_,_] ziW zmG ⟨rfl,rfl,rfl,trivial⟩ ⟨rfl,rfl⟩ rfl rfl (TL.stW 7 6 [_,_,_,_,_,_] rfl rfl rfl rfl rfl rfl zad rfl rfl (kL1 rfl trivial) (dB (xai rfl (dK ?_))))))))))
 refine TC.loopK (X:=Nat) [1,2,3,4,6] [0,1,2,7] (fun x=>[(7,.int .i64 ((x+1:Nat):Int))]) (fun x=>[(3,zaC ab mb 149 110 (zet l dn fd x (Array.replicate l.cells.toNat 0)))]) (fun x=>(x:Int)≤l.nodes) (fun x=>l.nodes.toNat - x) (0) (by omega) ⟨rfl,trivial⟩ ⟨rfl,trivial⟩ (fun x hI=>(TC.sub (env':=[(7,_),(1,_),(2,_),(3,_),(4,_),(6,_)]) (L':=[(3,_),(0,_),(1,_),(2,_),(7,_)]) ⟨rfl,rfl,rfl,rfl,rfl,rfl,trivial⟩ ⟨rfl,rfl,rfl,rfl,rfl,trivial⟩ (sB (xmi rfl (xL3 2 zaj rfl rfl (TL.callD [] [] (ze9 hl) ⟨rfl,trivial⟩ trivial ziZ rfl rfl rfl rfl rfl trivial (TL.leq rfl rfl rfl rfl (fun q1=>?_) (fun q1=>?_))))))))
 refine TL.done (TQ.then (TC.condT rfl (TC.skip (TQ.then (TC.seq (TC.block (sB (xf 3 zct rfl ?_))))))))
 refine xls 1 zbB rfl rfl (xz zax rfl (TL.gtr rfl rfl rfl rfl (fun q2=>?_) (fun q2=>?_)))
 refine TL.done (TQ.then (TC.condT rfl (TC.draw [(0,true),(1,true),(2,true),(4,true),(5,true),(6,true),(7,true),(8,true),(9,true),(10,true),(11,true),(12,true),(3,false),(13,false)] [0,1,2] fc_m (by kernel_rfl) (xmp rfl (xL3 2 zaj rfl rfl (xmi rfl (xf 3 zct rfl (xls 1 zbB rfl rfl ?_))))))))
 refine xmi rfl (xf 3 zct rfl (xls 1 zbB rfl rfl (xz zax rfl (TL.rem ((((x+1) % dn:Nat):Int)) rfl rfl (by omega) (by rw [Int.tmod_eq_emod_of_nonneg (by omega)]; exact (Int.natCast_emod (x+1) dn).symm) rfl rfl (TL.iaO rfl hda rfl zax (Nat.mod_lt _ (by omega)) rfl rfl (TL.ldRS 0 (.int _ _) rfl rfl hAd (Nat.mod_lt _ (by omega)) (rfl) zeM rfl rfl (TL.callD [] [] (zch hl) ⟨rfl,rfl,rfl,trivial⟩ trivial zd2 rfl rfl rfl rfl rfl (kL3 rfl rfl rfl trivial) (TL.callD [3] [3] (zgW (hfd _ (Nat.mod_lt _ (by omega)))) ⟨rfl,rfl,rfl,trivial⟩ ⟨rfl,trivial⟩ zmM rfl rfl rfl rfl rfl (kL3 rfl rfl rfl trivial) ?_))))))))
 refine dG (xL6 7 zad rfl rfl (xmi rfl (TL.callD [3] [3] (zdi (p:=P1) zcl hl) ⟨rfl,rfl,trivial⟩ ⟨rfl,trivial⟩ zfV rfl rfl rfl rfl rfl trivial (dI (xmi rfl (TL.add (((x+2:Nat):Int)) rfl rfl (wrN (by omega)) rfl rfl (xai rfl (TL.done ?_))))))))
 refine TQ.roundK (x+1) ⟨(by omega),(by omega)⟩ ⟨rfl,trivial⟩ ⟨congrArg (fun z=>some (zaC ab mb 149 110 (z))) (zi7 (by omega)),trivial⟩ (kE5 rfl rfl rfl rfl rfl trivial) (kL4 rfl rfl rfl rfl trivial)
 refine TL.done (TQ.then (TC.condF rfl (TC.skip (TQ.then (TC.region (xL6 7 zad rfl rfl (xmi rfl (TL.callD [3] [3] (zdi (p:=P1) zcl hl) ⟨rfl,rfl,trivial⟩ ⟨rfl,trivial⟩ zfV rfl rfl rfl rfl rfl trivial ?_))))))))
 refine dI (xmi rfl (TL.add (((x+2:Nat):Int)) rfl rfl (wrN (by omega)) rfl rfl (xai rfl (TL.done (TQ.roundK (x+1) ⟨(by omega),(by omega)⟩ ⟨rfl,trivial⟩ ⟨congrArg (fun z=>some (zaC ab mb 149 110 (z))) (zhs (by omega)),trivial⟩ (kE5 rfl rfl rfl rfl rfl trivial) (kL4 rfl rfl rfl rfl trivial))))))
 refine dE rfl (TC.seq ?_)
 obtain rfl:x=l.nodes.toNat:=by omega
 refine TC.nilA 8 (A:=ownA encE 5 65 (.slice none 0 0) #[]) (.inl ⟨rfl,rfl⟩) (TC.draw [(0,true),(1,true),(2,true),(3,true),(6,true),(4,false),(5,true),(7,false),(8,true),(9,false),(10,true)] [2] fc_m (by kernel_rfl) (xL3 2 zaj rfl rfl (xmp rfl (xL3 2 zaj rfl rfl (xmp rfl (TL.bld [.int .i64 0,.int .i64 0] [(.int _ _)] [_,_] zmA zmH ⟨rfl,trivial⟩ ⟨rfl,rfl⟩ rfl rfl (TL.callD [] [] zf4 ⟨rfl,trivial⟩ trivial zkx rfl rfl rfl rfl rfl (kL1 rfl trivial) (TL.miN (v:=(.agg _)) rfl zh5 rfl rfl ?_))))))))
 refine TL.callD [] [] (zkn (p:=P1)) ⟨rfl,rfl,rfl,trivial⟩ trivial zoZ rfl rfl rfl rfl rfl (kL1 rfl trivial) (TL.bld [.int .i64 0,.int .i64 0,.int .i64 0,.pointer none,.int .i64 0,.int .i64 0,.int .i64 0,.nilIface,.int .i64 0,.int .i64 0,.int .i64 0,.int .i64 0,.int .i64 0,.nilIface,.slice none 0 0] [(.agg _),(.pointer (some ⟨_,_,none⟩)),(.agg _)] [_,_,_,_,_,_,_,_,_,_,_,_,_,_,_] zoO zoT ⟨rfl,rfl,rfl,trivial⟩ ⟨rfl,rfl⟩ rfl rfl (TL.boxA 9 rfl rfl rfl (fun _=>(kL1 rfl trivial)) (fun bk9=>(xap rfl (dR ?_)))))
 refine FQ.ret1 (v:=(.pointer (some ⟨_,_,none⟩))) (Bs:=[_,_,_,_]) [0,9,3,8] rfl rfl rfl ⟨rfl,rfl,rfl,rfl,trivial⟩ ?_
 exact ⟨_,_,_,rfl,rfl⟩
theorem zkb {V S T:Int}:FnD Tryz.prog 85 [.agg #[.int .i64 V,.int .i64 S,.int .i64 T]] [] (.agg #[.int .i64 V,.int .i64 S,.int .i64 T]) []:=by
 refine Fn.enter (Tryz.func85) rfl rfl (fun w0 R=>?_)
 refine sA (xB 0 rfl (fun bk0=>(TL.alloc 1 (cs:=#[.int .i64 0,.int .i64 0,.int .i64 0]) zoQ rfl rfl rfl (fun _=>trivial) (fun bk1=>(dA (xf 0 zap rfl (xli 0 zaa rfl rfl (xf 1 zb7 rfl (xli 0 zaa rfl rfl (xf 2 zhk rfl ?_))))))))))
 refine xli 0 zaa rfl rfl (TL.bld [.int .i64 0,.int .i64 0,.int .i64 0] [(.int _ _),(.int _ _),(.int _ _)] [_,_,_] zoQ zq1 ⟨rfl,rfl,rfl,trivial⟩ ⟨rfl,rfl⟩ rfl rfl (TL.stW 1 3 [_,_,_] rfl rfl rfl rfl rfl rfl zbX rfl rfl trivial (dR ?_)))
 refine FQ.retG (rs:=[.cell 2 57]) [(.agg _)] (Bs:=[]) [] rfl ⟨⟨_,_,_,_,_,1,rfl,rfl,.inr ⟨3,[_,_,_],zbX,rfl,rfl⟩⟩,trivial⟩ rfl rfl trivial ?_
 exact ⟨rfl,rfl⟩
theorem zhd {V S T:Int} {da oa:Option Addr} {dn dc on oc:Nat}:FnD Tryz.prog 34 [.agg #[.int .i64 V,.int .i64 S,.int .i64 T,.slice da dn dc,.slice oa on oc]] [] (.bool (decide (okL V S T∧V≤8∧S≤12∧dn≤60∧on≤40))) []:=by
 refine Fn.enter (Tryz.func34) rfl rfl (fun w0 R=>?_)
 refine sA (xB 0 rfl (fun bk0=>(xaf rfl (dA (xf 0 zcu rfl (xL3 0 zaj rfl rfl (TL.callD [] [] zkb ⟨rfl,trivial⟩ trivial zo0 rfl rfl rfl rfl rfl trivial (TL.callD [] [] zjl ⟨rfl,trivial⟩ trivial zro rfl rfl rfl rfl rfl trivial (TL.casesP rfl (fun q1=>?_) (fun q1=>?_))))))))))
 refine xmt rfl (xf 0 zcu rfl (xf 0 zap rfl (xli 0 zaa rfl rfl (TL.leq rfl rfl rfl rfl (fun q2=>?_) (fun q2=>?_)))))
 refine xpT rfl (xmt rfl (xf 0 zcu rfl (xf 1 zb7 rfl (xli 0 zaa rfl rfl (TL.leq rfl rfl rfl rfl (fun q3=>?_) (fun q3=>?_))))))
 refine xpT rfl (xmt rfl (xf 3 zct rfl (xls 0 zbB rfl rfl (xz zax rfl (TL.leq rfl rfl rfl rfl (fun q4=>?_) (fun q4=>?_))))))
 refine xpT rfl (xmt rfl (xf 4 zcs rfl (xls 0 zgx rfl rfl (xz zbZ rfl (TL.leqV rfl rfl rfl rfl (TL.pickT (.bool _) rfl rfl rfl rfl (xab rfl (dR ?_))))))))
 refine FQ.ret1 (v:=(.bool _)) (Bs:=[]) [] rfl rfl rfl trivial ?_
 exact ⟨congrArg Value.bool (by first | (simp [*]; done) | (simp [*]; omega) | (rw [eq_comm,decide_eq_false_iff_not]; intro hc; obtain ⟨c1,c2,c3,c4,c5⟩:=hc; first | omega | (simp_all; done)) | (rw [eq_comm,decide_eq_true_iff]; refine ⟨by simp_all,?_⟩; omega) | (rw [decide_eq_decide]; constructor<;>intro hc<;>first | omega | exact ⟨by simp_all,by omega⟩)),rfl⟩
 refine xpG rfl (xmf rfl (xo rfl (xo rfl (xo rfl (xo rfl (xpF rfl (xaf rfl (dR ?_))))))))
 refine FQ.ret1 (v:=(.bool false)) (Bs:=[]) [] rfl rfl rfl trivial ?_
 exact ⟨congrArg Value.bool (by first | (simp [*]; done) | (simp [*]; omega) | (rw [eq_comm,decide_eq_false_iff_not]; intro hc; obtain ⟨c1,c2,c3,c4,c5⟩:=hc; first | omega | (simp_all; done)) | (rw [eq_comm,decide_eq_true_iff]; refine ⟨by simp_all,?_⟩; omega) | (rw [decide_eq_decide]; constructor<;>intro hc<;>first | omega | exact ⟨by simp_all,by omega⟩)),rfl⟩
 refine xpG rfl (xmf rfl (xo rfl (xo rfl (xo rfl (xo rfl (xpF rfl (xmf rfl (xo rfl ?_))))))))
 refine xo rfl (xo rfl (xo rfl (xpF rfl (xaf rfl (dR ?_)))))
 refine FQ.ret1 (v:=(.bool false)) (Bs:=[]) [] rfl rfl rfl trivial ?_
 exact ⟨congrArg Value.bool (by first | (simp [*]; done) | (simp [*]; omega) | (rw [eq_comm,decide_eq_false_iff_not]; intro hc; obtain ⟨c1,c2,c3,c4,c5⟩:=hc; first | omega | (simp_all; done)) | (rw [eq_comm,decide_eq_true_iff]; refine ⟨by simp_all,?_⟩; omega) | (rw [decide_eq_decide]; constructor<;>intro hc<;>first | omega | exact ⟨by simp_all,by omega⟩)),rfl⟩
 refine xpG rfl (xmf rfl (xo rfl (xo rfl (xo rfl (xo rfl (xpF rfl (xmf rfl (xo rfl ?_))))))))
 refine xo rfl (xo rfl (xo rfl (xpF rfl (xmf rfl (xo rfl (xo rfl (xo rfl (xo rfl ?_))))))))
 refine xpF rfl (xaf rfl (dR ?_))
 refine FQ.ret1 (v:=(.bool false)) (Bs:=[]) [] rfl rfl rfl trivial ?_
 exact ⟨congrArg Value.bool (by first | (simp [*]; done) | (simp [*]; omega) | (rw [eq_comm,decide_eq_false_iff_not]; intro hc; obtain ⟨c1,c2,c3,c4,c5⟩:=hc; first | omega | (simp_all; done)) | (rw [eq_comm,decide_eq_true_iff]; refine ⟨by simp_all,?_⟩; omega) | (rw [decide_eq_decide]; constructor<;>intro hc<;>first | omega | exact ⟨by simp_all,by omega⟩)),rfl⟩
 refine xmf rfl (xo rfl (xo rfl (xo rfl (xo rfl (xpF rfl (xmf rfl (xo rfl (xo rfl ?_))))))))
 refine xo rfl (xo rfl (xpF rfl (xmf rfl (xo rfl (xo rfl (xo rfl (xo rfl (xpF rfl ?_))))))))
 refine xmf rfl (xo rfl (xo rfl (xo rfl (xo rfl (xpF rfl (xaf rfl (dR ?_)))))))
 refine FQ.ret1 (v:=(.bool false)) (Bs:=[]) [] rfl rfl rfl trivial ?_
 exact ⟨congrArg Value.bool (by first | (simp [*]; done) | (simp [*]; omega) | (rw [eq_comm,decide_eq_false_iff_not]; intro hc; obtain ⟨c1,c2,c3,c4,c5⟩:=hc; first | omega | (simp_all; done)) | (rw [eq_comm,decide_eq_true_iff]; refine ⟨by simp_all,?_⟩; omega) | (rw [decide_eq_decide]; constructor<;>intro hc<;>first | omega | exact ⟨by simp_all,by omega⟩)),rfl⟩
set_option maxHeartbeats 1000000 in
theorem zd4 {pb ab mb:Nat} {σ:M} {v:Value} {l:Lay} (hl:l.Ok)  : Go.Eng.Fn Tryz.prog 39 [.pointer (some ⟨pb,0,none⟩)] [pt pb (.cells #[.int .i64 l.V,.int .i64 l.S,.int .i64 l.T,.pointer (some ⟨ab,0,none⟩),.int .i64 l.V,.int .i64 l.S,.int .i64 l.T,.iface 107 (.agg #[.pointer (some ⟨ab,0,none⟩)]),.int .i64 1,.int .i64 0,.int .i64 l.V,.int .i64 l.S,.int .i64 l.T,.iface 107 (.agg #[.pointer (some ⟨ab,0,none⟩)]),v] 90),zaC ab mb 149 110 (σ)] (fun x Bs=>∃ na nn nc ca xa mr bc offc cn cc bx offx xn xc Acl Ax fc fx ps,x=.agg #[.int .i64 l.V,.int .i64 l.S,.int .i64 l.T,.slice na nn nc,.slice ca cn cc,.map (some mr),.slice xa xn xc]∧Bs=[pt pb (.cells #[.int .i64 l.V,.int .i64 l.S,.int .i64 l.T,.pointer (some ⟨ab,0,none⟩),.int .i64 l.V,.int .i64 l.S,.int .i64 l.T,.iface 107 (.agg #[.pointer (some ⟨ab,0,none⟩)]),.int .i64 1,.int .i64 0,.int .i64 l.V,.int .i64 l.S,.int .i64 l.T,.iface 107 (.agg #[.pointer (some ⟨ab,0,none⟩)]),v] 90),zaC ab mb 149 110 (σ),Acl,mapA mr nmV natV ps,Ax]∧BookOk l σ ca bc offc cn Acl fc xa bx offx xn Ax fx ps):=by
 have hcb:=zaO hl
 have hnb:=zaz hl
 obtain ⟨N,hN⟩:∃ N:Nat,l.cells=(N:Int):=⟨l.cells.toNat,by have:=zcf hl; have:=zdn hl; omega⟩
 refine Fn.enter (Tryz.func39) rfl rfl (fun w0 R=>?_)
 refine sA (TL.alloc 2 (cs:=#[.int .i64 0,.int .i64 0,.int .i64 0,.slice none 0 0,.slice none 0 0,.map none,.slice none 0 0]) zbF rfl rfl rfl (fun _=>trivial) (fun bk2=>(dA (TL.asg (.slice none 0 0) rfl rfl rfl (dS (TC.seq (TC.nilA 3 (A:=ownA encU 1 110 (.slice none 0 0) (zfW σ 0)) (.inl ⟨rfl,rfl⟩) (TC.region (xmp rfl ?_)))))))))
 refine xN0 rfl (xf 0 zaB rfl (xL3 0 zaj rfl rfl (TL.callD [] [] (zkM hl) ⟨rfl,trivial⟩ trivial zo6 rfl rfl rfl rfl rfl trivial ?_)))
 rw [hN]
 refine xmi rfl (dK (TC.loopK (X:=Nat×Value) [0,2,11] [0,1,2] (fun ⟨i,w⟩=>[(12,.int .i64 ((i:Nat):Int)),(3,w)]) (fun ⟨i,w⟩=>[(3,ownA encU 1 110 w (zfW σ i))]) (fun ⟨i,w⟩=>i≤N) (fun ⟨i,w⟩=>N - i) ((0,_)) (Nat.zero_le _) ⟨rfl,rfl,trivial⟩ ⟨rfl,trivial⟩ (fun y hI=>?_)))
 obtain ⟨i,w⟩:=y
 replace hI:i≤N:=hI
 refine TC.sub (env':=[(12,_),(3,_),(0,_),(2,_),(11,_)]) (L':=[(3,_),(0,_),(1,_),(2,_)]) ⟨rfl,rfl,rfl,rfl,rfl,trivial⟩ ⟨rfl,rfl,rfl,rfl,trivial⟩ (sA (TL.lss rfl rfl rfl rfl (fun q1=>?_) (fun q1=>?_)))
 refine dS (TC.condT rfl (TC.skip (TQ.then (TC.seq (TC.block (sA (xmi rfl (xai rfl ?_))))))))
 refine dA (xmp rfl (xN0 rfl (xf 3 zla rfl (xlp 0 zmD rfl rfl (xmi rfl (TL.callD [1] [1] zkR ⟨rfl,rfl,trivial⟩ ⟨rfl,trivial⟩ zo4 rfl rfl rfl rfl rfl trivial (xmu rfl (xei rfl rfl ?_))))))))
 refine xei rfl rfl (xai rfl (xai rfl (dG (xmv rfl (xmi rfl (TL.bsN 4 [_] (encU (MemLike.get σ (i:Int))) zax zh3 ⟨rfl,trivial⟩ rfl (lit1 rfl) rfl rfl (fun bk4=>⟨trivial,?_⟩)))))))
 refine TL.appS 3 4 (d2:=#[MemLike.get σ (i:Int)]) rfl (rfl) rfl (fun _=>rfl) rfl rfl (row1 rfl) zik (by decide) zdc (by rw [zc6]; simp; omega) rfl rfl (fun v5=>⟨trivial,?_⟩)
 refine xav rfl (dI (TL.add (((i+1:Nat):Int)) rfl rfl (wrN (by omega)) rfl rfl (xmi rfl (TL.done (TQ.roundK ((i+1,_)) ⟨(show i+1≤N by omega),(show N - (i+1)<N - i by omega)⟩ ⟨rfl,rfl,trivial⟩ ⟨rfl,trivial⟩ (kE3 rfl rfl rfl trivial) (kL3 rfl rfl rfl trivial))))))
 refine dS (TC.condF rfl (TC.exit (TQ.thenExit (TQ.thenExit (TQ.blockHere (TQ.then (TC.seq ?_)))))))
 obtain rfl:i=N:=by omega
 refine TC.ownW 3 rfl (fun a8 g8 c8 hv8 hc8 ha8=>?_)
 cases hv8
 have hz8:=zc6 (σ:=σ) (i:=i)
 refine TC.region (xmp rfl (xN0 rfl (xf 0 zaB rfl (xL3 0 zaj rfl rfl (TL.callD [] [] zkb ⟨rfl,trivial⟩ trivial zo0 rfl rfl rfl rfl rfl trivial (xmv rfl (TL.call [3] [3,6,7] (zpx hl ha8 (zab ha8)) ⟨rfl,rfl,trivial⟩ ⟨rfl,trivial⟩ zrj rfl rfl rfl rfl ?_)))))))
 rintro x Bs ⟨na,nn,nc,xv,mr,ps,d9,rfl,rfl,hps,hN2,hsz⟩
 refine ⟨rfl,trivial,?_⟩
 refine TL.ownW 7 rfl (fun ax gx cx hvx hcx hax=>?_)
 subst hvx
 refine TL.stW 2 7 [_,_,_,_,_,_,_] rfl rfl rfl rfl rfl rfl zai rfl rfl trivial (dR ?_)
 refine FQ.retG (rs:=[.cell 2 61]) [(.agg _)] (Bs:=[_,_,_,_,_]) [0,1,3,6,7] rfl ⟨⟨_,_,_,_,_,2,rfl,rfl,.inr ⟨7,[_,_,_,_,_,_,_],zai,rfl,rfl⟩⟩,trivial⟩ rfl rfl ⟨rfl,rfl,rfl,rfl,rfl,trivial⟩ ?_
 refine ⟨_,_,_,_,_,_,_,_,_,_,_,_,_,_,_,_,_,_,_,rfl,rfl,⟨ha8,zab ha8,hax,zab hax,by omega,fun i2 h2=>zhq (by omega),hps,by omega,fun i2 h2=>hN2 i2 h2⟩⟩
set_option maxHeartbeats 1000000 in
theorem zlA {pb ab mb:Nat} {σ:M} {v:Value} {d:Array EdR} {l:Lay} (hl:l.Ok) (hd:d.size≤100) {o:Op3} (hc:o.u=o.v)  : Go.Eng.Fn Tryz.prog 37 [.pointer (some ⟨pb,0,none⟩),.agg #[.int .i64 o.kind,.int .i64 o.u,.int .i64 o.v]] [pt pb (.cells #[.int .i64 l.V,.int .i64 l.S,.int .i64 l.T,.pointer (some ⟨ab,0,none⟩),.int .i64 l.V,.int .i64 l.S,.int .i64 l.T,.iface 107 (.agg #[.pointer (some ⟨ab,0,none⟩)]),.int .i64 1,.int .i64 0,.int .i64 l.V,.int .i64 l.S,.int .i64 l.T,.iface 107 (.agg #[.pointer (some ⟨ab,0,none⟩)]),v] 90),zaC ab mb 149 110 (σ),ownA encE 5 65 v d] (fun x Bs=>x=.bool true∧∃ v2,Bs=[pt pb (.cells #[.int .i64 l.V,.int .i64 l.S,.int .i64 l.T,.pointer (some ⟨ab,0,none⟩),.int .i64 l.V,.int .i64 l.S,.int .i64 l.T,.iface 107 (.agg #[.pointer (some ⟨ab,0,none⟩)]),.int .i64 1,.int .i64 0,.int .i64 l.V,.int .i64 l.S,.int .i64 l.T,.iface 107 (.agg #[.pointer (some ⟨ab,0,none⟩)]),v2] 90),zaC ab mb 149 110 (σ),ownA encE 5 65 v2 (d)]):=by
 have hlb:=zaU hl
 refine Fn.enter (Tryz.func37) rfl rfl (fun w0 R=>?_)
 refine sA (xB 3 rfl (fun bk3=>(xaf rfl (dS (TC.seq (TC.draw [(0,true),(1,true),(2,true),(3,true),(4,true),(5,true),(6,true),(7,true),(8,true),(9,true),(10,true),(11,true),(12,true),(13,true),(14,true),(15,true),(16,true),(17,true),(18,true),(19,true),(20,true),(21,true),(22,true),(23,true),(24,true),(25,true),(26,true),(27,true),(28,true),(29,true),(30,true),(31,true),(32,true),(33,true),(34,true)] [0,3] fc_m (by kernel_rfl) (xf 1 zal rfl (xli 3 zaa rfl rfl (xf 2 zan rfl ?_)))))))))
 refine xli 3 zaa rfl rfl (TL.eqlT rfl rfl (by omega) rfl rfl (xmt rfl (xo rfl (xo rfl (xo rfl (xpT rfl (xmt rfl (xo rfl ?_))))))))
 refine xo rfl (xo rfl (xo rfl (xo rfl (xo rfl (xo rfl (xo rfl (xpT rfl (xmt rfl ?_))))))))
 refine xo rfl (xo rfl (xo rfl (xpT rfl (xmt rfl (xo rfl (xo rfl (xo rfl (xo rfl ?_))))))))
 refine xo rfl (xo rfl (xo rfl (xo rfl (xpT rfl (dT rfl (xat rfl (dRR ?_)))))))
 refine FQ.ret1 (v:=(.bool true)) (Bs:=[_,_,_]) [0,1,2] rfl rfl rfl ⟨rfl,rfl,rfl,trivial⟩ ?_
 exact ⟨rfl,_,rfl⟩
set_option maxHeartbeats 1000000 in
theorem zlz {pb ab mb:Nat} {σ:M} {v:Value} {d:Array EdR} {l:Lay} (hl:l.Ok) (hd:d.size≤100) {o:Op3} (n0:¬o.u=o.v) (hc:o.u<0)  : Go.Eng.Fn Tryz.prog 37 [.pointer (some ⟨pb,0,none⟩),.agg #[.int .i64 o.kind,.int .i64 o.u,.int .i64 o.v]] [pt pb (.cells #[.int .i64 l.V,.int .i64 l.S,.int .i64 l.T,.pointer (some ⟨ab,0,none⟩),.int .i64 l.V,.int .i64 l.S,.int .i64 l.T,.iface 107 (.agg #[.pointer (some ⟨ab,0,none⟩)]),.int .i64 1,.int .i64 0,.int .i64 l.V,.int .i64 l.S,.int .i64 l.T,.iface 107 (.agg #[.pointer (some ⟨ab,0,none⟩)]),v] 90),zaC ab mb 149 110 (σ),ownA encE 5 65 v d] (fun x Bs=>x=.bool true∧∃ v2,Bs=[pt pb (.cells #[.int .i64 l.V,.int .i64 l.S,.int .i64 l.T,.pointer (some ⟨ab,0,none⟩),.int .i64 l.V,.int .i64 l.S,.int .i64 l.T,.iface 107 (.agg #[.pointer (some ⟨ab,0,none⟩)]),.int .i64 1,.int .i64 0,.int .i64 l.V,.int .i64 l.S,.int .i64 l.T,.iface 107 (.agg #[.pointer (some ⟨ab,0,none⟩)]),v2] 90),zaC ab mb 149 110 (σ),ownA encE 5 65 v2 (d)]):=by
 have hlb:=zaU hl
 refine Fn.enter (Tryz.func37) rfl rfl (fun w0 R=>?_)
 refine sA (xB 3 rfl (fun bk3=>(xaf rfl (dS (TC.seq (TC.draw [(0,true),(1,true),(2,true),(3,true),(4,true),(5,true),(6,true),(7,true),(8,true),(9,true),(10,true),(11,true),(12,true),(13,true),(14,true),(15,true),(16,true),(17,true),(18,true),(19,true),(20,true),(21,true),(22,true),(23,true),(24,true),(25,true),(26,true),(27,true),(28,true),(29,true),(30,true),(31,true),(32,true),(33,true),(34,true)] [0,3] fc_m (by kernel_rfl) (xf 1 zal rfl (xli 3 zaa rfl rfl (xf 2 zan rfl ?_)))))))))
 refine xli 3 zaa rfl rfl (TL.eqlF rfl rfl (by omega) rfl rfl (xmf rfl (xf 1 zal rfl (xli 3 zaa rfl rfl (TL.lssT rfl rfl (by omega) rfl rfl (xpH rfl (xmt rfl (xo rfl ?_))))))))
 refine xo rfl (xo rfl (xo rfl (xo rfl (xo rfl (xo rfl (xo rfl (xpT rfl (xmt rfl ?_))))))))
 refine xo rfl (xo rfl (xo rfl (xpT rfl (xmt rfl (xo rfl (xo rfl (xo rfl (xo rfl ?_))))))))
 refine xo rfl (xo rfl (xo rfl (xo rfl (xpT rfl (dT rfl (xat rfl (dRR ?_)))))))
 refine FQ.ret1 (v:=(.bool true)) (Bs:=[_,_,_]) [0,1,2] rfl rfl rfl ⟨rfl,rfl,rfl,trivial⟩ ?_
 exact ⟨rfl,_,rfl⟩
set_option maxHeartbeats 1000000 in
theorem zly {pb ab mb:Nat} {σ:M} {v:Value} {d:Array EdR} {l:Lay} (hl:l.Ok) (hd:d.size≤100) {o:Op3} (n0:¬o.u=o.v) (n1:¬o.u<0) (hc:l.V≤o.u)  : Go.Eng.Fn Tryz.prog 37 [.pointer (some ⟨pb,0,none⟩),.agg #[.int .i64 o.kind,.int .i64 o.u,.int .i64 o.v]] [pt pb (.cells #[.int .i64 l.V,.int .i64 l.S,.int .i64 l.T,.pointer (some ⟨ab,0,none⟩),.int .i64 l.V,.int .i64 l.S,.int .i64 l.T,.iface 107 (.agg #[.pointer (some ⟨ab,0,none⟩)]),.int .i64 1,.int .i64 0,.int .i64 l.V,.int .i64 l.S,.int .i64 l.T,.iface 107 (.agg #[.pointer (some ⟨ab,0,none⟩)]),v] 90),zaC ab mb 149 110 (σ),ownA encE 5 65 v d] (fun x Bs=>x=.bool true∧∃ v2,Bs=[pt pb (.cells #[.int .i64 l.V,.int .i64 l.S,.int .i64 l.T,.pointer (some ⟨ab,0,none⟩),.int .i64 l.V,.int .i64 l.S,.int .i64 l.T,.iface 107 (.agg #[.pointer (some ⟨ab,0,none⟩)]),.int .i64 1,.int .i64 0,.int .i64 l.V,.int .i64 l.S,.int .i64 l.T,.iface 107 (.agg #[.pointer (some ⟨ab,0,none⟩)]),v2] 90),zaC ab mb 149 110 (σ),ownA encE 5 65 v2 (d)]):=by
 have hlb:=zaU hl
 refine Fn.enter (Tryz.func37) rfl rfl (fun w0 R=>?_)
 refine sA (xB 3 rfl (fun bk3=>(xaf rfl (dS (TC.seq (TC.draw [(0,true),(1,true),(2,true),(3,true),(4,true),(5,true),(6,true),(7,true),(8,true),(9,true),(10,true),(11,true),(12,true),(13,true),(14,true),(15,true),(16,true),(17,true),(18,true),(19,true),(20,true),(21,true),(22,true),(23,true),(24,true),(25,true),(26,true),(27,true),(28,true),(29,true),(30,true),(31,true),(32,true),(33,true),(34,true)] [0,3] fc_m (by kernel_rfl) (xf 1 zal rfl (xli 3 zaa rfl rfl (xf 2 zan rfl ?_)))))))))
 refine xli 3 zaa rfl rfl (TL.eqlF rfl rfl (by omega) rfl rfl (xmf rfl (xf 1 zal rfl (xli 3 zaa rfl rfl (TL.lssF rfl rfl (by omega) rfl rfl (xpF rfl (xmf rfl (xf 1 zal rfl ?_))))))))
 refine xli 3 zaa rfl rfl (xmp rfl (xN0 rfl (xf 0 zaB rfl (xf 0 zap rfl (xli 0 zaa rfl rfl (TL.geqT rfl rfl (by omega) rfl rfl (xpH rfl (xmt rfl ?_))))))))
 refine xo rfl (xo rfl (xo rfl (xpT rfl (xmt rfl (xo rfl (xo rfl (xo rfl (xo rfl ?_))))))))
 refine xo rfl (xo rfl (xo rfl (xo rfl (xpT rfl (dT rfl (xat rfl (dRR ?_)))))))
 refine FQ.ret1 (v:=(.bool true)) (Bs:=[_,_,_]) [0,1,2] rfl rfl rfl ⟨rfl,rfl,rfl,trivial⟩ ?_
 exact ⟨rfl,_,rfl⟩
set_option maxHeartbeats 1000000 in
theorem zlx {pb ab mb:Nat} {σ:M} {v:Value} {d:Array EdR} {l:Lay} (hl:l.Ok) (hd:d.size≤100) {o:Op3} (n0:¬o.u=o.v) (n1:¬o.u<0) (n2:¬l.V≤o.u) (hc:o.v<0)  : Go.Eng.Fn Tryz.prog 37 [.pointer (some ⟨pb,0,none⟩),.agg #[.int .i64 o.kind,.int .i64 o.u,.int .i64 o.v]] [pt pb (.cells #[.int .i64 l.V,.int .i64 l.S,.int .i64 l.T,.pointer (some ⟨ab,0,none⟩),.int .i64 l.V,.int .i64 l.S,.int .i64 l.T,.iface 107 (.agg #[.pointer (some ⟨ab,0,none⟩)]),.int .i64 1,.int .i64 0,.int .i64 l.V,.int .i64 l.S,.int .i64 l.T,.iface 107 (.agg #[.pointer (some ⟨ab,0,none⟩)]),v] 90),zaC ab mb 149 110 (σ),ownA encE 5 65 v d] (fun x Bs=>x=.bool true∧∃ v2,Bs=[pt pb (.cells #[.int .i64 l.V,.int .i64 l.S,.int .i64 l.T,.pointer (some ⟨ab,0,none⟩),.int .i64 l.V,.int .i64 l.S,.int .i64 l.T,.iface 107 (.agg #[.pointer (some ⟨ab,0,none⟩)]),.int .i64 1,.int .i64 0,.int .i64 l.V,.int .i64 l.S,.int .i64 l.T,.iface 107 (.agg #[.pointer (some ⟨ab,0,none⟩)]),v2] 90),zaC ab mb 149 110 (σ),ownA encE 5 65 v2 (d)]):=by
 have hlb:=zaU hl
 refine Fn.enter (Tryz.func37) rfl rfl (fun w0 R=>?_)
 refine sA (xB 3 rfl (fun bk3=>(xaf rfl (dS (TC.seq (TC.draw [(0,true),(1,true),(2,true),(3,true),(4,true),(5,true),(6,true),(7,true),(8,true),(9,true),(10,true),(11,true),(12,true),(13,true),(14,true),(15,true),(16,true),(17,true),(18,true),(19,true),(20,true),(21,true),(22,true),(23,true),(24,true),(25,true),(26,true),(27,true),(28,true),(29,true),(30,true),(31,true),(32,true),(33,true),(34,true)] [0,3] fc_m (by kernel_rfl) (xf 1 zal rfl (xli 3 zaa rfl rfl (xf 2 zan rfl ?_)))))))))
 refine xli 3 zaa rfl rfl (TL.eqlF rfl rfl (by omega) rfl rfl (xmf rfl (xf 1 zal rfl (xli 3 zaa rfl rfl (TL.lssF rfl rfl (by omega) rfl rfl (xpF rfl (xmf rfl (xf 1 zal rfl ?_))))))))
 refine xli 3 zaa rfl rfl (xmp rfl (xN0 rfl (xf 0 zaB rfl (xf 0 zap rfl (xli 0 zaa rfl rfl (TL.geqF rfl rfl (by omega) rfl rfl (xpF rfl (xmf rfl ?_))))))))
 refine xf 2 zan rfl (xli 3 zaa rfl rfl (TL.lssT rfl rfl (by omega) rfl rfl (xpH rfl (xmt rfl (xo rfl (xo rfl (xo rfl (xo rfl ?_))))))))
 refine xo rfl (xo rfl (xo rfl (xo rfl (xpT rfl (dT rfl (xat rfl (dRR ?_)))))))
 refine FQ.ret1 (v:=(.bool true)) (Bs:=[_,_,_]) [0,1,2] rfl rfl rfl ⟨rfl,rfl,rfl,trivial⟩ ?_
 exact ⟨rfl,_,rfl⟩
set_option maxHeartbeats 1000000 in
theorem zlw {pb ab mb:Nat} {σ:M} {v:Value} {d:Array EdR} {l:Lay} (hl:l.Ok) (hd:d.size≤100) {o:Op3} (n0:¬o.u=o.v) (n1:¬o.u<0) (n2:¬l.V≤o.u) (n3:¬o.v<0) (hc:l.V≤o.v)  : Go.Eng.Fn Tryz.prog 37 [.pointer (some ⟨pb,0,none⟩),.agg #[.int .i64 o.kind,.int .i64 o.u,.int .i64 o.v]] [pt pb (.cells #[.int .i64 l.V,.int .i64 l.S,.int .i64 l.T,.pointer (some ⟨ab,0,none⟩),.int .i64 l.V,.int .i64 l.S,.int .i64 l.T,.iface 107 (.agg #[.pointer (some ⟨ab,0,none⟩)]),.int .i64 1,.int .i64 0,.int .i64 l.V,.int .i64 l.S,.int .i64 l.T,.iface 107 (.agg #[.pointer (some ⟨ab,0,none⟩)]),v] 90),zaC ab mb 149 110 (σ),ownA encE 5 65 v d] (fun x Bs=>x=.bool true∧∃ v2,Bs=[pt pb (.cells #[.int .i64 l.V,.int .i64 l.S,.int .i64 l.T,.pointer (some ⟨ab,0,none⟩),.int .i64 l.V,.int .i64 l.S,.int .i64 l.T,.iface 107 (.agg #[.pointer (some ⟨ab,0,none⟩)]),.int .i64 1,.int .i64 0,.int .i64 l.V,.int .i64 l.S,.int .i64 l.T,.iface 107 (.agg #[.pointer (some ⟨ab,0,none⟩)]),v2] 90),zaC ab mb 149 110 (σ),ownA encE 5 65 v2 (d)]):=by
 have hlb:=zaU hl
 refine Fn.enter (Tryz.func37) rfl rfl (fun w0 R=>?_)
 refine sA (xB 3 rfl (fun bk3=>(xaf rfl (dS (TC.seq (TC.draw [(0,true),(1,true),(2,true),(3,true),(4,true),(5,true),(6,true),(7,true),(8,true),(9,true),(10,true),(11,true),(12,true),(13,true),(14,true),(15,true),(16,true),(17,true),(18,true),(19,true),(20,true),(21,true),(22,true),(23,true),(24,true),(25,true),(26,true),(27,true),(28,true),(29,true),(30,true),(31,true),(32,true),(33,true),(34,true)] [0,3] fc_m (by kernel_rfl) (xf 1 zal rfl (xli 3 zaa rfl rfl (xf 2 zan rfl ?_)))))))))
 refine xli 3 zaa rfl rfl (TL.eqlF rfl rfl (by omega) rfl rfl (xmf rfl (xf 1 zal rfl (xli 3 zaa rfl rfl (TL.lssF rfl rfl (by omega) rfl rfl (xpF rfl (xmf rfl (xf 1 zal rfl ?_))))))))
 refine xli 3 zaa rfl rfl (xmp rfl (xN0 rfl (xf 0 zaB rfl (xf 0 zap rfl (xli 0 zaa rfl rfl (TL.geqF rfl rfl (by omega) rfl rfl (xpF rfl (xmf rfl ?_))))))))
 refine xf 2 zan rfl (xli 3 zaa rfl rfl (TL.lssF rfl rfl (by omega) rfl rfl (xpF rfl (xmf rfl (xf 2 zan rfl (xli 3 zaa rfl rfl (xmp rfl (xN0 rfl ?_))))))))
 refine xf 0 zaB rfl (xf 0 zap rfl (xli 0 zaa rfl rfl (TL.geqT rfl rfl (by omega) rfl rfl (xpH rfl (dT rfl (xat rfl (dRR ?_)))))))
 refine FQ.ret1 (v:=(.bool true)) (Bs:=[_,_,_]) [0,1,2] rfl rfl rfl ⟨rfl,rfl,rfl,trivial⟩ ?_
 exact ⟨rfl,_,rfl⟩
set_option maxHeartbeats 1000000 in
theorem zlE {pb ab mb:Nat} {σ:M} {v:Value} {d:Array EdR} {l:Lay} (hl:l.Ok) (hd:d.size≤100) {o:Op3} (hv:¬(o.u=o.v∨o.u<0∨l.V≤o.u∨o.v<0∨l.V≤o.v)) (hk:o.kind=1) {i:Nat} (e1:fsN (bwB d o.u o.v) d.size=(i:Int)) (hi:i<d.size)  : Go.Eng.Fn Tryz.prog 37 [.pointer (some ⟨pb,0,none⟩),.agg #[.int .i64 o.kind,.int .i64 o.u,.int .i64 o.v]] [pt pb (.cells #[.int .i64 l.V,.int .i64 l.S,.int .i64 l.T,.pointer (some ⟨ab,0,none⟩),.int .i64 l.V,.int .i64 l.S,.int .i64 l.T,.iface 107 (.agg #[.pointer (some ⟨ab,0,none⟩)]),.int .i64 1,.int .i64 0,.int .i64 l.V,.int .i64 l.S,.int .i64 l.T,.iface 107 (.agg #[.pointer (some ⟨ab,0,none⟩)]),v] 90),zaC ab mb 149 110 (σ),ownA encE 5 65 v d] (fun x Bs=>x=.bool true∧∃ v2,Bs=[pt pb (.cells #[.int .i64 l.V,.int .i64 l.S,.int .i64 l.T,.pointer (some ⟨ab,0,none⟩),.int .i64 l.V,.int .i64 l.S,.int .i64 l.T,.iface 107 (.agg #[.pointer (some ⟨ab,0,none⟩)]),.int .i64 1,.int .i64 0,.int .i64 l.V,.int .i64 l.S,.int .i64 l.T,.iface 107 (.agg #[.pointer (some ⟨ab,0,none⟩)]),v2] 90),zaC ab mb 149 110 (σ),ownA encE 5 65 v2 (d)]):=by
 have hlb:=zaU hl
 refine Fn.enter (Tryz.func37) rfl rfl (fun w0 R=>?_)
 refine sA (xB 3 rfl (fun bk3=>(xaf rfl (dS (TC.seq (TC.draw [(0,true),(1,true),(2,true),(3,true),(4,true),(5,true),(6,true),(7,true),(8,true),(9,true),(10,true),(11,true),(12,true),(13,true),(14,true),(15,true),(16,true),(17,true),(18,true),(19,true),(20,true),(21,true),(22,true),(23,true),(24,true),(25,true),(26,true),(27,true),(28,true),(29,true),(30,true),(31,true),(32,true),(33,true),(34,true)] [0,3] fc_m (by kernel_rfl) (xf 1 zal rfl (xli 3 zaa rfl rfl (xf 2 zan rfl ?_)))))))))
 refine xli 3 zaa rfl rfl (TL.eqlF rfl rfl (by omega) rfl rfl (xmf rfl (xf 1 zal rfl (xli 3 zaa rfl rfl (TL.lssF rfl rfl (by omega) rfl rfl (xpF rfl (xmf rfl (xf 1 zal rfl ?_))))))))
 refine xli 3 zaa rfl rfl (xmp rfl (xN0 rfl (xf 0 zaB rfl (xf 0 zap rfl (xli 0 zaa rfl rfl (TL.geqF rfl rfl (by omega) rfl rfl (xpF rfl (xmf rfl ?_))))))))
 refine xf 2 zan rfl (xli 3 zaa rfl rfl (TL.lssF rfl rfl (by omega) rfl rfl (xpF rfl (xmf rfl (xf 2 zan rfl (xli 3 zaa rfl rfl (xmp rfl (xN0 rfl ?_))))))))
 refine xf 0 zaB rfl (xf 0 zap rfl (xli 0 zaa rfl rfl (TL.geqF rfl rfl (by omega) rfl rfl (xpF rfl (dF rfl (xmp rfl (xf 1 zal rfl (xli 3 zaa rfl rfl ?_))))))))
 refine xf 2 zan rfl (xli 3 zaa rfl rfl (TL.callD [0,2] [0,2] (zbR hl hd) ⟨rfl,rfl,rfl,trivial⟩ ⟨rfl,rfl,trivial⟩ zfm rfl rfl rfl rfl rfl trivial ?_))
 rw [e1]
 refine xmp rfl (TL.callD [0,2] [0,2] (zcg hl hd) ⟨rfl,trivial⟩ ⟨rfl,rfl,trivial⟩ zfn rfl rfl rfl rfl rfl trivial (xai rfl (xai rfl (dB (xf 0 za9 rfl (xli 3 zaa rfl rfl (dK (sA ?_))))))))
 refine TL.eqlT rfl rfl (by omega) rfl rfl (xat rfl (TL.done (TQ.then (TC.condT rfl (sB (xmi rfl (TL.geqT rfl rfl (by omega) rfl rfl (xmt rfl ?_))))))))
 refine xo rfl (xo rfl (xpT rfl (dT rfl (xat rfl (dRR (TQ.blockRet (TQ.thenRet ?_)))))))
 refine FQ.ret1 (v:=(.bool true)) (Bs:=[_,_,_]) [0,1,2] rfl rfl rfl ⟨rfl,rfl,rfl,trivial⟩ ?_
 exact ⟨rfl,_,rfl⟩
set_option maxHeartbeats 1000000 in
theorem zlD {pb ab mb:Nat} {σ:M} {v:Value} {d:Array EdR} {l:Lay} (hl:l.Ok) (hd:d.size≤100) {o:Op3} (hv:¬(o.u=o.v∨o.u<0∨l.V≤o.u∨o.v<0∨l.V≤o.v)) (hk:o.kind=1) (e1:fsN (bwB d o.u o.v) d.size=-1) (e2:fsN (noS d) l.S=-1)  : Go.Eng.Fn Tryz.prog 37 [.pointer (some ⟨pb,0,none⟩),.agg #[.int .i64 o.kind,.int .i64 o.u,.int .i64 o.v]] [pt pb (.cells #[.int .i64 l.V,.int .i64 l.S,.int .i64 l.T,.pointer (some ⟨ab,0,none⟩),.int .i64 l.V,.int .i64 l.S,.int .i64 l.T,.iface 107 (.agg #[.pointer (some ⟨ab,0,none⟩)]),.int .i64 1,.int .i64 0,.int .i64 l.V,.int .i64 l.S,.int .i64 l.T,.iface 107 (.agg #[.pointer (some ⟨ab,0,none⟩)]),v] 90),zaC ab mb 149 110 (σ),ownA encE 5 65 v d] (fun x Bs=>x=.bool true∧∃ v2,Bs=[pt pb (.cells #[.int .i64 l.V,.int .i64 l.S,.int .i64 l.T,.pointer (some ⟨ab,0,none⟩),.int .i64 l.V,.int .i64 l.S,.int .i64 l.T,.iface 107 (.agg #[.pointer (some ⟨ab,0,none⟩)]),.int .i64 1,.int .i64 0,.int .i64 l.V,.int .i64 l.S,.int .i64 l.T,.iface 107 (.agg #[.pointer (some ⟨ab,0,none⟩)]),v2] 90),zaC ab mb 149 110 (σ),ownA encE 5 65 v2 (d)]):=by
 have hlb:=zaU hl
 refine Fn.enter (Tryz.func37) rfl rfl (fun w0 R=>?_)
 refine sA (xB 3 rfl (fun bk3=>(xaf rfl (dS (TC.seq (TC.draw [(0,true),(1,true),(2,true),(3,true),(4,true),(5,true),(6,true),(7,true),(8,true),(9,true),(10,true),(11,true),(12,true),(13,true),(14,true),(15,true),(16,true),(17,true),(18,true),(19,true),(20,true),(21,true),(22,true),(23,true),(24,true),(25,true),(26,true),(27,true),(28,true),(29,true),(30,true),(31,true),(32,true),(33,true),(34,true)] [0,3] fc_m (by kernel_rfl) (xf 1 zal rfl (xli 3 zaa rfl rfl (xf 2 zan rfl ?_)))))))))
 refine xli 3 zaa rfl rfl (TL.eqlF rfl rfl (by omega) rfl rfl (xmf rfl (xf 1 zal rfl (xli 3 zaa rfl rfl (TL.lssF rfl rfl (by omega) rfl rfl (xpF rfl (xmf rfl (xf 1 zal rfl ?_))))))))
 refine xli 3 zaa rfl rfl (xmp rfl (xN0 rfl (xf 0 zaB rfl (xf 0 zap rfl (xli 0 zaa rfl rfl (TL.geqF rfl rfl (by omega) rfl rfl (xpF rfl (xmf rfl ?_))))))))
 refine xf 2 zan rfl (xli 3 zaa rfl rfl (TL.lssF rfl rfl (by omega) rfl rfl (xpF rfl (xmf rfl (xf 2 zan rfl (xli 3 zaa rfl rfl (xmp rfl (xN0 rfl ?_))))))))
 refine xf 0 zaB rfl (xf 0 zap rfl (xli 0 zaa rfl rfl (TL.geqF rfl rfl (by omega) rfl rfl (xpF rfl (dF rfl (xmp rfl (xf 1 zal rfl (xli 3 zaa rfl rfl ?_))))))))
 refine xf 2 zan rfl (xli 3 zaa rfl rfl (TL.callD [0,2] [0,2] (zbR hl hd) ⟨rfl,rfl,rfl,trivial⟩ ⟨rfl,rfl,trivial⟩ zfm rfl rfl rfl rfl rfl trivial ?_))
 rw [e1]
 refine xmp rfl (TL.callD [0,2] [0,2] (zcg hl hd) ⟨rfl,trivial⟩ ⟨rfl,rfl,trivial⟩ zfn rfl rfl rfl rfl rfl trivial ?_)
 rw [e2]
 refine xai rfl (xai rfl (dB (xf 0 za9 rfl (xli 3 zaa rfl rfl (dK (sA (TL.eqlT rfl rfl (by omega) rfl rfl (xat rfl ?_))))))))
 refine TL.done (TQ.then (TC.condT rfl (sB (xmi rfl (TL.geqF rfl rfl (by omega) rfl rfl (xmf rfl (xmi rfl (TL.lssT rfl rfl (by omega) rfl rfl ?_))))))))
 refine xpH rfl (dT rfl (xat rfl (dRR (TQ.blockRet (TQ.thenRet ?_)))))
 refine FQ.ret1 (v:=(.bool true)) (Bs:=[_,_,_]) [0,1,2] rfl rfl rfl ⟨rfl,rfl,rfl,trivial⟩ ?_
 exact ⟨rfl,_,rfl⟩
set_option maxHeartbeats 1000000 in
theorem zlC {pb ab mb:Nat} {σ:M} {v:Value} {d:Array EdR} {l:Lay} (hl:l.Ok) (hd:d.size≤100) {o:Op3} (hv:¬(o.u=o.v∨o.u<0∨l.V≤o.u∨o.v<0∨l.V≤o.v)) (hk:o.kind=2) (e1:fsN (bwB d o.u o.v) d.size=-1)  : Go.Eng.Fn Tryz.prog 37 [.pointer (some ⟨pb,0,none⟩),.agg #[.int .i64 o.kind,.int .i64 o.u,.int .i64 o.v]] [pt pb (.cells #[.int .i64 l.V,.int .i64 l.S,.int .i64 l.T,.pointer (some ⟨ab,0,none⟩),.int .i64 l.V,.int .i64 l.S,.int .i64 l.T,.iface 107 (.agg #[.pointer (some ⟨ab,0,none⟩)]),.int .i64 1,.int .i64 0,.int .i64 l.V,.int .i64 l.S,.int .i64 l.T,.iface 107 (.agg #[.pointer (some ⟨ab,0,none⟩)]),v] 90),zaC ab mb 149 110 (σ),ownA encE 5 65 v d] (fun x Bs=>x=.bool true∧∃ v2,Bs=[pt pb (.cells #[.int .i64 l.V,.int .i64 l.S,.int .i64 l.T,.pointer (some ⟨ab,0,none⟩),.int .i64 l.V,.int .i64 l.S,.int .i64 l.T,.iface 107 (.agg #[.pointer (some ⟨ab,0,none⟩)]),.int .i64 1,.int .i64 0,.int .i64 l.V,.int .i64 l.S,.int .i64 l.T,.iface 107 (.agg #[.pointer (some ⟨ab,0,none⟩)]),v2] 90),zaC ab mb 149 110 (σ),ownA encE 5 65 v2 (d)]):=by
 have hlb:=zaU hl
 refine Fn.enter (Tryz.func37) rfl rfl (fun w0 R=>?_)
 refine sA (xB 3 rfl (fun bk3=>(xaf rfl (dS (TC.seq (TC.draw [(0,true),(1,true),(2,true),(3,true),(4,true),(5,true),(6,true),(7,true),(8,true),(9,true),(10,true),(11,true),(12,true),(13,true),(14,true),(15,true),(16,true),(17,true),(18,true),(19,true),(20,true),(21,true),(22,true),(23,true),(24,true),(25,true),(26,true),(27,true),(28,true),(29,true),(30,true),(31,true),(32,true),(33,true),(34,true)] [0,3] fc_m (by kernel_rfl) (xf 1 zal rfl (xli 3 zaa rfl rfl (xf 2 zan rfl ?_)))))))))
 refine xli 3 zaa rfl rfl (TL.eqlF rfl rfl (by omega) rfl rfl (xmf rfl (xf 1 zal rfl (xli 3 zaa rfl rfl (TL.lssF rfl rfl (by omega) rfl rfl (xpF rfl (xmf rfl (xf 1 zal rfl ?_))))))))
 refine xli 3 zaa rfl rfl (xmp rfl (xN0 rfl (xf 0 zaB rfl (xf 0 zap rfl (xli 0 zaa rfl rfl (TL.geqF rfl rfl (by omega) rfl rfl (xpF rfl (xmf rfl ?_))))))))
 refine xf 2 zan rfl (xli 3 zaa rfl rfl (TL.lssF rfl rfl (by omega) rfl rfl (xpF rfl (xmf rfl (xf 2 zan rfl (xli 3 zaa rfl rfl (xmp rfl (xN0 rfl ?_))))))))
 refine xf 0 zaB rfl (xf 0 zap rfl (xli 0 zaa rfl rfl (TL.geqF rfl rfl (by omega) rfl rfl (xpF rfl (dF rfl (xmp rfl (xf 1 zal rfl (xli 3 zaa rfl rfl ?_))))))))
 refine xf 2 zan rfl (xli 3 zaa rfl rfl (TL.callD [0,2] [0,2] (zbR hl hd) ⟨rfl,rfl,rfl,trivial⟩ ⟨rfl,rfl,trivial⟩ zfm rfl rfl rfl rfl rfl trivial ?_))
 rw [e1]
 refine xmp rfl (TL.callD [0,2] [0,2] (zcg hl hd) ⟨rfl,trivial⟩ ⟨rfl,rfl,trivial⟩ zfn rfl rfl rfl rfl rfl trivial (xai rfl (xai rfl (dB (xf 0 za9 rfl (xli 3 zaa rfl rfl (dK (sA ?_))))))))
 refine TL.eqlF rfl rfl (by omega) rfl rfl (xaf rfl (TL.done (TQ.then (TC.condF rfl (sA (TL.eqlT rfl rfl (by omega) rfl rfl (xat rfl (TL.done ?_))))))))
 refine TQ.then (TC.condT rfl (sB (xmi rfl (TL.lssT rfl rfl (by omega) rfl rfl (dT rfl (xat rfl (dRR (TQ.blockRet ?_))))))))
 refine TQ.thenRet ?_
 refine FQ.ret1 (v:=(.bool true)) (Bs:=[_,_,_]) [0,1,2] rfl rfl rfl ⟨rfl,rfl,rfl,trivial⟩ ?_
 exact ⟨rfl,_,rfl⟩
set_option maxHeartbeats 1000000 in
theorem zlB {pb ab mb:Nat} {σ:M} {v:Value} {d:Array EdR} {l:Lay} (hl:l.Ok) (hd:d.size≤100) {o:Op3} (hv:¬(o.u=o.v∨o.u<0∨l.V≤o.u∨o.v<0∨l.V≤o.v)) (hk:¬(o.kind=1∨o.kind=2∨o.kind=3))  : Go.Eng.Fn Tryz.prog 37 [.pointer (some ⟨pb,0,none⟩),.agg #[.int .i64 o.kind,.int .i64 o.u,.int .i64 o.v]] [pt pb (.cells #[.int .i64 l.V,.int .i64 l.S,.int .i64 l.T,.pointer (some ⟨ab,0,none⟩),.int .i64 l.V,.int .i64 l.S,.int .i64 l.T,.iface 107 (.agg #[.pointer (some ⟨ab,0,none⟩)]),.int .i64 1,.int .i64 0,.int .i64 l.V,.int .i64 l.S,.int .i64 l.T,.iface 107 (.agg #[.pointer (some ⟨ab,0,none⟩)]),v] 90),zaC ab mb 149 110 (σ),ownA encE 5 65 v d] (fun x Bs=>x=.bool true∧∃ v2,Bs=[pt pb (.cells #[.int .i64 l.V,.int .i64 l.S,.int .i64 l.T,.pointer (some ⟨ab,0,none⟩),.int .i64 l.V,.int .i64 l.S,.int .i64 l.T,.iface 107 (.agg #[.pointer (some ⟨ab,0,none⟩)]),.int .i64 1,.int .i64 0,.int .i64 l.V,.int .i64 l.S,.int .i64 l.T,.iface 107 (.agg #[.pointer (some ⟨ab,0,none⟩)]),v2] 90),zaC ab mb 149 110 (σ),ownA encE 5 65 v2 (d)]):=by
 have hlb:=zaU hl
 refine Fn.enter (Tryz.func37) rfl rfl (fun w0 R=>?_)
 refine sA (xB 3 rfl (fun bk3=>(xaf rfl (dS (TC.seq (TC.draw [(0,true),(1,true),(2,true),(3,true),(4,true),(5,true),(6,true),(7,true),(8,true),(9,true),(10,true),(11,true),(12,true),(13,true),(14,true),(15,true),(16,true),(17,true),(18,true),(19,true),(20,true),(21,true),(22,true),(23,true),(24,true),(25,true),(26,true),(27,true),(28,true),(29,true),(30,true),(31,true),(32,true),(33,true),(34,true)] [0,3] fc_m (by kernel_rfl) (xf 1 zal rfl (xli 3 zaa rfl rfl (xf 2 zan rfl ?_)))))))))
 refine xli 3 zaa rfl rfl (TL.eqlF rfl rfl (by omega) rfl rfl (xmf rfl (xf 1 zal rfl (xli 3 zaa rfl rfl (TL.lssF rfl rfl (by omega) rfl rfl (xpF rfl (xmf rfl (xf 1 zal rfl ?_))))))))
 refine xli 3 zaa rfl rfl (xmp rfl (xN0 rfl (xf 0 zaB rfl (xf 0 zap rfl (xli 0 zaa rfl rfl (TL.geqF rfl rfl (by omega) rfl rfl (xpF rfl (xmf rfl ?_))))))))
 refine xf 2 zan rfl (xli 3 zaa rfl rfl (TL.lssF rfl rfl (by omega) rfl rfl (xpF rfl (xmf rfl (xf 2 zan rfl (xli 3 zaa rfl rfl (xmp rfl (xN0 rfl ?_))))))))
 refine xf 0 zaB rfl (xf 0 zap rfl (xli 0 zaa rfl rfl (TL.geqF rfl rfl (by omega) rfl rfl (xpF rfl (dF rfl (xmp rfl (xf 1 zal rfl (xli 3 zaa rfl rfl ?_))))))))
 refine xf 2 zan rfl (xli 3 zaa rfl rfl (TL.callD [0,2] [0,2] (zbR hl hd) ⟨rfl,rfl,rfl,trivial⟩ ⟨rfl,rfl,trivial⟩ zfm rfl rfl rfl rfl rfl trivial (xmp rfl (TL.callD [0,2] [0,2] (zcg hl hd) ⟨rfl,trivial⟩ ⟨rfl,rfl,trivial⟩ zfn rfl rfl rfl rfl rfl trivial (xai rfl (xai rfl (dB (xf 0 za9 rfl ?_))))))))
 refine xli 3 zaa rfl rfl (dK (sA (TL.eqlF rfl rfl (by omega) rfl rfl (xaf rfl (TL.done (TQ.then (TC.condF rfl (sA ?_))))))))
 refine TL.eqlF rfl rfl (by omega) rfl rfl (xaf rfl (TL.done (TQ.then (TC.condF rfl (sA (TL.eqlF rfl rfl (by omega) rfl rfl (xaf rfl (TL.done ?_))))))))
 refine TQ.then (TC.condF rfl (TC.skip (TQ.inBlock (TQ.then (sA (xat rfl (dR ?_)))))))
 refine FQ.ret1 (v:=(.bool true)) (Bs:=[_,_,_]) [0,1,2] rfl rfl rfl ⟨rfl,rfl,rfl,trivial⟩ ?_
 exact ⟨rfl,_,rfl⟩
set_option maxHeartbeats 1000000 in
theorem znH {pb ab mb:Nat} {σ:M} {v:Value} {d:Array EdR} {l:Lay} (hl:l.Ok) (hd:d.size≤100) {o:Op3} (hv:¬(o.u=o.v∨o.u<0∨l.V≤o.u∨o.v<0∨l.V≤o.v)) (hk:o.kind=3) {k:Nat} {σ1:M} (h:Go.Tm.same l k σ 0 o.u o.v=some (jdB d o.u o.v,σ1))  : Go.Eng.Fn Tryz.prog 37 [.pointer (some ⟨pb,0,none⟩),.agg #[.int .i64 o.kind,.int .i64 o.u,.int .i64 o.v]] [pt pb (.cells #[.int .i64 l.V,.int .i64 l.S,.int .i64 l.T,.pointer (some ⟨ab,0,none⟩),.int .i64 l.V,.int .i64 l.S,.int .i64 l.T,.iface 107 (.agg #[.pointer (some ⟨ab,0,none⟩)]),.int .i64 1,.int .i64 0,.int .i64 l.V,.int .i64 l.S,.int .i64 l.T,.iface 107 (.agg #[.pointer (some ⟨ab,0,none⟩)]),v] 90),zaC ab mb 149 110 (σ),ownA encE 5 65 v d] (fun x Bs=>x=.bool true∧∃ v2,Bs=[pt pb (.cells #[.int .i64 l.V,.int .i64 l.S,.int .i64 l.T,.pointer (some ⟨ab,0,none⟩),.int .i64 l.V,.int .i64 l.S,.int .i64 l.T,.iface 107 (.agg #[.pointer (some ⟨ab,0,none⟩)]),.int .i64 1,.int .i64 0,.int .i64 l.V,.int .i64 l.S,.int .i64 l.T,.iface 107 (.agg #[.pointer (some ⟨ab,0,none⟩)]),v2] 90),zaC ab mb 149 110 (σ1),ownA encE 5 65 v2 (d)]):=by
 have hlb:=zaU hl
 refine Fn.enter (Tryz.func37) rfl rfl (fun w0 R=>?_)
 refine sA (xB 3 rfl (fun bk3=>(xaf rfl (dS (TC.seq (TC.draw [(0,true),(1,true),(2,true),(3,true),(4,true),(5,true),(6,true),(7,true),(8,true),(9,true),(10,true),(11,true),(12,true),(13,true),(14,true),(15,true),(16,true),(17,true),(18,true),(19,true),(20,true),(21,true),(22,true),(23,true),(24,true),(25,true),(26,true),(27,true),(28,true),(29,true),(30,true),(31,true),(32,true),(33,true),(34,true)] [0,3] fc_m (by kernel_rfl) (xf 1 zal rfl (xli 3 zaa rfl rfl (xf 2 zan rfl ?_)))))))))
 refine xli 3 zaa rfl rfl (TL.eqlF rfl rfl (by omega) rfl rfl (xmf rfl (xf 1 zal rfl (xli 3 zaa rfl rfl (TL.lssF rfl rfl (by omega) rfl rfl (xpF rfl (xmf rfl (xf 1 zal rfl ?_))))))))
 refine xli 3 zaa rfl rfl (xmp rfl (xN0 rfl (xf 0 zaB rfl (xf 0 zap rfl (xli 0 zaa rfl rfl (TL.geqF rfl rfl (by omega) rfl rfl (xpF rfl (xmf rfl ?_))))))))
 refine xf 2 zan rfl (xli 3 zaa rfl rfl (TL.lssF rfl rfl (by omega) rfl rfl (xpF rfl (xmf rfl (xf 2 zan rfl (xli 3 zaa rfl rfl (xmp rfl (xN0 rfl ?_))))))))
 refine xf 0 zaB rfl (xf 0 zap rfl (xli 0 zaa rfl rfl (TL.geqF rfl rfl (by omega) rfl rfl (xpF rfl (dF rfl (xmp rfl (xf 1 zal rfl (xli 3 zaa rfl rfl ?_))))))))
 refine xf 2 zan rfl (xli 3 zaa rfl rfl (TL.callD [0,2] [0,2] (zbR hl hd) ⟨rfl,rfl,rfl,trivial⟩ ⟨rfl,rfl,trivial⟩ zfm rfl rfl rfl rfl rfl trivial (xmp rfl (TL.callD [0,2] [0,2] (zcg hl hd) ⟨rfl,trivial⟩ ⟨rfl,rfl,trivial⟩ zfn rfl rfl rfl rfl rfl trivial (xai rfl (xai rfl (dB (xf 0 za9 rfl ?_))))))))
 refine xli 3 zaa rfl rfl (dK (sA (TL.eqlF rfl rfl (by omega) rfl rfl (xaf rfl (TL.done (TQ.then (TC.condF rfl (sA ?_))))))))
 refine TL.eqlF rfl rfl (by omega) rfl rfl (xaf rfl (TL.done (TQ.then (TC.condF rfl (sA (TL.eqlT rfl rfl (by omega) rfl rfl (xat rfl (TL.done ?_))))))))
 refine TQ.then (TC.condT rfl (TC.seq (TC.ownW 2 rfl (fun a9 g9 c9 hv9 hc9 ha9=>?_))))
 cases hv9
 refine TC.draw [(0,true),(1,true),(2,true),(3,true),(4,true),(5,true),(6,true),(7,true),(9,true),(10,true),(11,true),(12,true),(13,true),(14,true),(15,true),(16,true),(8,false),(17,false),(18,true),(19,true)] [0,3] fc_m (by kernel_rfl) (xmp rfl (xN0 rfl (xf 4 za3 rfl (xL10 0 za5 rfl rfl (xf 1 zal rfl (xli 3 zaa rfl rfl (xf 2 zan rfl (xli 3 zaa rfl rfl ?_))))))))
 refine xmp rfl (xN0 rfl (xf 14 zay rfl (xlv 0 zbw rfl rfl (xf 1 zal rfl (xli 3 zaa rfl rfl (xf 2 zan rfl (xli 3 zaa rfl rfl (TL.callD [1] [1] (zdX (p:=P1) zcl hl h) ⟨rfl,rfl,rfl,trivial⟩ ⟨rfl,trivial⟩ zi1 rfl rfl rfl rfl rfl (kL2 rfl rfl trivial) ?_))))))))
 refine TL.callD [2] [2] (zf2 ha9 (zab ha9) (by omega)) ⟨rfl,rfl,rfl,trivial⟩ ⟨rfl,trivial⟩ zkA rfl rfl rfl rfl rfl (kL2 rfl rfl trivial) ?_
 rw [show jnB (fun jj=>(d)[jj]!) (d).size o.u o.v=jdB (d) o.u o.v from rfl]
 refine TL.eqlB rfl rfl zg3 rfl rfl (xab rfl (dR (TQ.blockRet (TQ.thenRet ?_))))
 refine FQ.ret1 (v:=(.bool _)) (Bs:=[_,_,_]) [0,1,2] rfl rfl rfl ⟨rfl,rfl,rfl,trivial⟩ ?_
 exact ⟨congrArg Value.bool (by simp),_,rfl⟩
set_option maxHeartbeats 1000000 in
theorem znI {pb ab mb:Nat} {σ:M} {v:Value} {d:Array EdR} {l:Lay} (hl:l.Ok) (hd:d.size≤100) {o:Op3} (hv:¬(o.u=o.v∨o.u<0∨l.V≤o.u∨o.v<0∨l.V≤o.v)) (hk:o.kind=1) (e1:fsN (bwB d o.u o.v) d.size=-1) {s:Nat} (e2:fsN (noS d) l.S=(s:Int)) (hs:(s:Int)<l.S) {k:Nat} {σ1:M} (h:zcq l P1 k σ s o.u o.v=some (!jdB d o.u o.v,σ1))  : Go.Eng.Fn Tryz.prog 37 [.pointer (some ⟨pb,0,none⟩),.agg #[.int .i64 o.kind,.int .i64 o.u,.int .i64 o.v]] [pt pb (.cells #[.int .i64 l.V,.int .i64 l.S,.int .i64 l.T,.pointer (some ⟨ab,0,none⟩),.int .i64 l.V,.int .i64 l.S,.int .i64 l.T,.iface 107 (.agg #[.pointer (some ⟨ab,0,none⟩)]),.int .i64 1,.int .i64 0,.int .i64 l.V,.int .i64 l.S,.int .i64 l.T,.iface 107 (.agg #[.pointer (some ⟨ab,0,none⟩)]),v] 90),zaC ab mb 149 110 (σ),ownA encE 5 65 v d] (fun x Bs=>x=.bool true∧∃ v2,Bs=[pt pb (.cells #[.int .i64 l.V,.int .i64 l.S,.int .i64 l.T,.pointer (some ⟨ab,0,none⟩),.int .i64 l.V,.int .i64 l.S,.int .i64 l.T,.iface 107 (.agg #[.pointer (some ⟨ab,0,none⟩)]),.int .i64 1,.int .i64 0,.int .i64 l.V,.int .i64 l.S,.int .i64 l.T,.iface 107 (.agg #[.pointer (some ⟨ab,0,none⟩)]),v2] 90),zaC ab mb 149 110 (σ1),ownA encE 5 65 v2 (d++#[⟨(s:Int),min o.u o.v,max o.u o.v,0,false⟩])]):=by
 have hlb:=zaU hl
 refine Fn.enter (Tryz.func37) rfl rfl (fun w0 R=>?_)
 refine sA (xB 3 rfl (fun bk3=>(xaf rfl (dS (TC.seq (TC.draw [(0,true),(1,true),(2,true),(3,true),(4,true),(5,true),(6,true),(7,true),(8,true),(9,true),(10,true),(11,true),(12,true),(13,true),(14,true),(15,true),(16,true),(17,true),(18,true),(19,true),(20,true),(21,true),(22,true),(23,true),(24,true),(25,true),(26,true),(27,true),(28,true),(29,true),(30,true),(31,true),(32,true),(33,true),(34,true)] [0,3] fc_m (by kernel_rfl) (xf 1 zal rfl (xli 3 zaa rfl rfl (xf 2 zan rfl ?_)))))))))
 refine xli 3 zaa rfl rfl (TL.eqlF rfl rfl (by omega) rfl rfl (xmf rfl (xf 1 zal rfl (xli 3 zaa rfl rfl (TL.lssF rfl rfl (by omega) rfl rfl (xpF rfl (xmf rfl (xf 1 zal rfl ?_))))))))
 refine xli 3 zaa rfl rfl (xmp rfl (xN0 rfl (xf 0 zaB rfl (xf 0 zap rfl (xli 0 zaa rfl rfl (TL.geqF rfl rfl (by omega) rfl rfl (xpF rfl (xmf rfl ?_))))))))
 refine xf 2 zan rfl (xli 3 zaa rfl rfl (TL.lssF rfl rfl (by omega) rfl rfl (xpF rfl (xmf rfl (xf 2 zan rfl (xli 3 zaa rfl rfl (xmp rfl (xN0 rfl ?_))))))))
 refine xf 0 zaB rfl (xf 0 zap rfl (xli 0 zaa rfl rfl (TL.geqF rfl rfl (by omega) rfl rfl (xpF rfl (dF rfl (xmp rfl (xf 1 zal rfl (xli 3 zaa rfl rfl ?_))))))))
 refine xf 2 zan rfl (xli 3 zaa rfl rfl (TL.callD [0,2] [0,2] (zbR hl hd) ⟨rfl,rfl,rfl,trivial⟩ ⟨rfl,rfl,trivial⟩ zfm rfl rfl rfl rfl rfl trivial ?_))
 rw [e1]
 refine xmp rfl (TL.callD [0,2] [0,2] (zcg hl hd) ⟨rfl,trivial⟩ ⟨rfl,rfl,trivial⟩ zfn rfl rfl rfl rfl rfl trivial ?_)
 rw [e2]
 refine xai rfl (xai rfl (dB (xf 0 za9 rfl (xli 3 zaa rfl rfl (dK (sA (TL.eqlT rfl rfl (by omega) rfl rfl (xat rfl ?_))))))))
 refine TL.done (TQ.then (TC.condT rfl (sB (xmi rfl (TL.geqF rfl rfl (by omega) rfl rfl (xmf rfl (xmi rfl (TL.lssF rfl rfl (by omega) rfl rfl ?_))))))))
 refine xpF rfl (TL.done (TQ.then (TC.condF rfl (TC.skip (TQ.then (TC.seq (TC.ownW 2 rfl (fun a9 g9 c9 hv9 hc9 ha9=>?_))))))))
 cases hv9
 refine TC.draw [(0,true),(1,true),(2,true),(3,true),(4,true),(5,true),(6,true),(7,true),(8,false),(9,true),(10,true)] [0,3] fc_m (by kernel_rfl) (xmp rfl (xN0 rfl (xf 14 zay rfl (xlv 0 zbw rfl rfl (xf 1 zal rfl (xli 3 zaa rfl rfl (xf 2 zan rfl (xli 3 zaa rfl rfl ?_))))))))
 refine TL.callD [2] [2] (zf2 ha9 (zab ha9) (by omega)) ⟨rfl,rfl,rfl,trivial⟩ ⟨rfl,trivial⟩ zkA rfl rfl rfl rfl rfl (kL2 rfl rfl trivial) ?_
 rw [show jnB (fun jj=>(d)[jj]!) (d).size o.u o.v=jdB (d) o.u o.v from rfl]
 refine TL.not _ _ rfl rfl rfl rfl (xab rfl (dS (TC.draw2 [(0,true),(1,true),(2,true),(3,true),(4,true),(5,true),(6,true),(7,true),(8,true),(9,true),(10,true),(11,true),(12,true),(13,true),(14,true),(15,true),(16,true),(17,false),(18,false),(19,true),(20,true)] 21 [] [0,3] fc_m (by kernel_rfl) (xmp rfl (xmp rfl (xN0 rfl (xf 14 zay rfl (xlv 0 zbw rfl rfl ?_))))))))
 refine xmi rfl (xf 1 zal rfl (xli 3 zaa rfl rfl (xf 2 zan rfl (xli 3 zaa rfl rfl (TL.min2 rfl rfl rfl rfl (xf 1 zal rfl (xli 3 zaa rfl rfl (xf 2 zan rfl ?_))))))))
 refine xli 3 zaa rfl rfl (TL.max2 rfl rfl rfl rfl (TL.bld [.int .i64 0,.int .i64 0,.int .i64 0,.int .i64 0,.bool false] [(.int _ _),(.int _ _),(.int _ _)] [_,_,_,_,_] zc0 zmF ⟨rfl,rfl,rfl,trivial⟩ ⟨rfl,rfl⟩ rfl rfl (TL.bsN 4 [_] (encE ⟨(s:Int),min o.u o.v,max o.u o.v,0,false⟩) zah zc0 ⟨rfl,trivial⟩ rfl (lit1 rfl) rfl rfl (fun bk4=>⟨(kL2 rfl rfl trivial),?_⟩))))
 refine TL.appS 2 4 (d2:=#[⟨(s:Int),min o.u o.v,max o.u o.v,0,false⟩]) rfl (rfl) rfl (fun _=>rfl) rfl rfl (row1 rfl) zdg (by decide) zbH (by simp; omega) rfl rfl (fun v5=>⟨(kL2 rfl rfl trivial),?_⟩)
 refine TL.ownW 2 rfl (fun a9 g9 c9 hv9 _ _=>?_)
 cases hv9
 refine xN0 rfl (xf 14 zay rfl (TL.late (TL.st 0 #[_,_,_,_,_,_,_,_,_,_,_,_,_,_,_] _ rfl rfl rfl rfl rfl rfl zbw rfl rfl trivial (dS (TC.draw [(0,true),(1,true),(2,true),(3,true),(4,true),(5,true),(6,true),(7,true),(8,true),(10,true),(9,false),(11,true),(12,true)] [0,3] fc_m (by kernel_rfl) (xmp rfl (xN0 rfl (xf 4 za3 rfl ?_))))))))
 refine xL10 0 za5 rfl rfl (xmi rfl (xf 1 zal rfl (xli 3 zaa rfl rfl (xf 2 zan rfl (xli 3 zaa rfl rfl (xmb rfl (TL.callD [1] [1] (zei (p:=P1) zcl hl h) ⟨rfl,rfl,rfl,rfl,trivial⟩ ⟨rfl,trivial⟩ zkz rfl rfl rfl rfl rfl (kL2 rfl rfl trivial) (TL.eqlB rfl rfl zg3 rfl rfl ?_))))))))
 refine xab rfl (dR (TQ.blockRet (TQ.thenRet ?_)))
 refine FQ.ret1 (v:=(.bool _)) (Bs:=[_,_,_]) [0,1,2] rfl rfl rfl ⟨rfl,rfl,rfl,trivial⟩ ?_
 exact ⟨congrArg Value.bool (by simp),_,rfl⟩
set_option maxHeartbeats 1000000 in
theorem zlH {pb ab mb:Nat} {σ:M} {v:Value} {d:Array EdR} {l:Lay} (hl:l.Ok) (hd:d.size≤100) {o:Op3} (hv:¬(o.u=o.v∨o.u<0∨l.V≤o.u∨o.v<0∨l.V≤o.v)) (hk:o.kind=2) {i:Nat} (e1:fsN (bwB d o.u o.v) d.size=(i:Int)) (hi:i<d.size) {k:Nat} {σ1:M} {g g2:G} {b:Int} (ht:g.tr d[i]!.slot=false) (hE1:EdgeOk l σ g) (hh:g.has d[i]!.slot=true) (h:zcr l P1 k σ d[i]!.slot=some ((false,0,false),σ1))  : Go.Eng.Fn Tryz.prog 37 [.pointer (some ⟨pb,0,none⟩),.agg #[.int .i64 o.kind,.int .i64 o.u,.int .i64 o.v]] [pt pb (.cells #[.int .i64 l.V,.int .i64 l.S,.int .i64 l.T,.pointer (some ⟨ab,0,none⟩),.int .i64 l.V,.int .i64 l.S,.int .i64 l.T,.iface 107 (.agg #[.pointer (some ⟨ab,0,none⟩)]),.int .i64 1,.int .i64 0,.int .i64 l.V,.int .i64 l.S,.int .i64 l.T,.iface 107 (.agg #[.pointer (some ⟨ab,0,none⟩)]),v] 90),zaC ab mb 149 110 (σ),ownA encE 5 65 v d] (fun x Bs=>x=.bool true∧∃ v2,Bs=[pt pb (.cells #[.int .i64 l.V,.int .i64 l.S,.int .i64 l.T,.pointer (some ⟨ab,0,none⟩),.int .i64 l.V,.int .i64 l.S,.int .i64 l.T,.iface 107 (.agg #[.pointer (some ⟨ab,0,none⟩)]),.int .i64 1,.int .i64 0,.int .i64 l.V,.int .i64 l.S,.int .i64 l.T,.iface 107 (.agg #[.pointer (some ⟨ab,0,none⟩)]),v2] 90),zaC ab mb 149 110 (σ1),ownA encE 5 65 v2 (cutA d i)]):=by
 have hlb:=zaU hl
 refine Fn.enter (Tryz.func37) rfl rfl (fun w0 R=>?_)
 refine sA (xB 3 rfl (fun bk3=>(xaf rfl (dS (TC.seq (TC.draw [(0,true),(1,true),(2,true),(3,true),(4,true),(5,true),(6,true),(7,true),(8,true),(9,true),(10,true),(11,true),(12,true),(13,true),(14,true),(15,true),(16,true),(17,true),(18,true),(19,true),(20,true),(21,true),(22,true),(23,true),(24,true),(25,true),(26,true),(27,true),(28,true),(29,true),(30,true),(31,true),(32,true),(33,true),(34,true)] [0,3] fc_m (by kernel_rfl) (xf 1 zal rfl (xli 3 zaa rfl rfl (xf 2 zan rfl ?_)))))))))
 refine xli 3 zaa rfl rfl (TL.eqlF rfl rfl (by omega) rfl rfl (xmf rfl (xf 1 zal rfl (xli 3 zaa rfl rfl (TL.lssF rfl rfl (by omega) rfl rfl (xpF rfl (xmf rfl (xf 1 zal rfl ?_))))))))
 refine xli 3 zaa rfl rfl (xmp rfl (xN0 rfl (xf 0 zaB rfl (xf 0 zap rfl (xli 0 zaa rfl rfl (TL.geqF rfl rfl (by omega) rfl rfl (xpF rfl (xmf rfl ?_))))))))
 refine xf 2 zan rfl (xli 3 zaa rfl rfl (TL.lssF rfl rfl (by omega) rfl rfl (xpF rfl (xmf rfl (xf 2 zan rfl (xli 3 zaa rfl rfl (xmp rfl (xN0 rfl ?_))))))))
 refine xf 0 zaB rfl (xf 0 zap rfl (xli 0 zaa rfl rfl (TL.geqF rfl rfl (by omega) rfl rfl (xpF rfl (dF rfl (xmp rfl (xf 1 zal rfl (xli 3 zaa rfl rfl ?_))))))))
 refine xf 2 zan rfl (xli 3 zaa rfl rfl (TL.callD [0,2] [0,2] (zbR hl hd) ⟨rfl,rfl,rfl,trivial⟩ ⟨rfl,rfl,trivial⟩ zfm rfl rfl rfl rfl rfl trivial ?_))
 rw [e1]
 refine xmp rfl (TL.callD [0,2] [0,2] (zcg hl hd) ⟨rfl,trivial⟩ ⟨rfl,rfl,trivial⟩ zfn rfl rfl rfl rfl rfl trivial (xai rfl (xai rfl (dB (xf 0 za9 rfl (xli 3 zaa rfl rfl (dK (sA ?_))))))))
 refine TL.eqlF rfl rfl (by omega) rfl rfl (xaf rfl (TL.done (TQ.then (TC.condF rfl (sA (TL.eqlT rfl rfl (by omega) rfl rfl (xat rfl (TL.done ?_))))))))
 refine TQ.then (TC.condT rfl (sB (xmi rfl (TL.lssF rfl rfl (by omega) rfl rfl (TL.done (TQ.then (TC.condF rfl (TC.skip ?_))))))))
 refine TQ.then (TC.seq (TC.ownW 2 rfl (fun a9 g9 c9 hv9 hc9 ha9=>?_)))
 cases hv9
 obtain rfl:=ha9 (by omega)
 refine TC.region (xmp rfl (xN0 rfl (xf 14 zay rfl (xlv 0 zbw rfl rfl (xmi rfl (TL.iaO rfl ha9 rfl zah (by omega) rfl rfl (TL.ldRx 2 [_,_,_,_,_] rfl rfl (zab ha9) (by omega) rfl zaV rfl rfl (TL.alloc 4 (cs:=#[.int .i64 0,.int .i64 0,.int .i64 0,.int .i64 0,.bool false]) zc0 rfl rfl rfl (fun _=>trivial) (fun bk4=>?_)))))))))
 refine TL.stW 4 5 [_,_,_,_,_] rfl rfl rfl rfl rfl rfl zaV rfl rfl trivial (dA (xmp rfl (TL.call [0,1] [0,1,5,6,7] (zd4 hl) ⟨rfl,trivial⟩ ⟨rfl,rfl,trivial⟩ zi2 rfl rfl rfl rfl ?_)))
 rintro xb Bs ⟨na,nn,nc,ca,xa,mr,bc,offc,cn,cc,bx,offx,xn,xc,Acl,Ax,fc,fx,ps,rfl,rfl,hB⟩
 refine ⟨rfl,trivial,?_⟩
 refine TL.call [5,6,7] [5,6,7,8] (zd5 hl hB hE1) ⟨rfl,trivial⟩ ⟨rfl,rfl,rfl,trivial⟩ zi3 rfl rfl rfl rfl ?_
 rintro x7 Bs ⟨vea,Ea,rfl,rfl,hMa⟩
 refine ⟨rfl,trivial,?_⟩
 refine TL.ownW 8 rfl (fun aEa gEa cEa hvEa hcEa haEa=>?_)
 subst hvEa
 have hzEa:=hMa.size_le hl hE1
 refine xmu rfl (xes rfl rfl (xet rfl rfl (xas rfl (xat rfl (dS ?_)))))
 have hAa:zaW (ownA encE 5 65 (.slice (some ⟨g9,0,none⟩) d.size c9) d) encE 5 g9 0 d.size (fun i=>d[i]!):=zab ha9
 refine TC.draw2 [(0,true),(2,true),(3,true),(4,true),(5,true),(6,true),(7,true),(9,true),(10,true),(11,true),(12,true),(13,true),(14,true),(15,true),(1,false),(8,false),(16,false),(17,true),(18,true)] 19 [] [0] fc_m (by kernel_rfl) (xmp rfl (xmp rfl (xN0 rfl (xf 14 zay rfl (xlv 0 zbw rfl rfl (xmi rfl (TL.slHi rfl rfl zah (by omega) rfl rfl (xmp rfl ?_))))))))
 refine xN0 rfl (xf 14 zay rfl (xlv 0 zbw rfl rfl (xmi rfl (TL.add (((i+1:Nat):Int)) rfl rfl (wrN (by omega)) rfl rfl (TL.slLo rfl rfl zah (by omega) rfl rfl (TL.bs0 9 encE zah rfl rfl (fun bk9=>⟨(kL1 rfl trivial),?_⟩)))))))
 obtain ⟨ad0,had0⟩:=zd8 (ad:=⟨g9,0,none⟩) (i:=0) (size:=5) (cap:=c9)
 rw [had0]
 refine TL.appS 9 2 (d2:=rngE (fun j=>d[j]!) i) rfl (zaH _ _) rfl (fun h=>had0.symm.trans (zfO (len:=d.size) (i:=0) ha9 hc9 (by omega))) rfl rfl ((hAa.take (m:=i) (by omega)).congr fun j hj=>(zcK _ hj).symm) zdg (by decide) zbH (by rw [zaH]; simp; omega) rfl rfl (fun v10=>⟨(kL1 rfl trivial),?_⟩)
 obtain ⟨ad,had⟩:=zd8 (ad:=⟨g9,0,none⟩) (i:=i+1) (size:=5) (cap:=c9)
 rw [had]
 refine TL.appS 9 2 (d2:=rngE (fun j=>d[i+1+j]!) (d.size - (i+1))) rfl (zaH _ _) rfl (fun h=>had.symm.trans (zfO (len:=d.size) ha9 hc9 h)) rfl rfl ((hAa.drop (i+1) (d.size - (i+1)) (by omega)).congr fun j hj=>(zcK (fun j=>d[i+1+j]!) hj).symm) zdg (by decide) zbH (by rw [zaH]; simp [zaH]; omega) rfl rfl (fun v11=>⟨(kL1 rfl trivial),?_⟩)
 have hcut:(#[]:Array EdR)++rngE (fun j=>d[j]!) i++rngE (fun j=>d[i+1+j]!) (d.size - (i+1))=cutA d i:=by unfold cutA; simp only [Array.empty_append]
 rw [hcut]
 have hcs:(cutA d i).size=d.size - 1:=zd3 hl hi
 refine TL.ownW 9 rfl (fun a9 g9 c9 hv9 _ _=>?_)
 cases hv9
 refine xN0 rfl (xf 14 zay rfl (TL.late (TL.st 0 #[_,_,_,_,_,_,_,_,_,_,_,_,_,_,_] _ rfl rfl rfl rfl rfl rfl zbw rfl rfl trivial (dS (TC.draw [(0,true),(1,true),(2,true),(3,true),(4,true),(5,true),(6,false),(7,true),(8,true),(9,true),(10,true),(11,true),(12,true),(13,true)] [0,4] fc_m (by kernel_rfl) (xmp rfl (xN0 rfl (xf 4 za3 rfl ?_))))))))
 refine xL10 0 za5 rfl rfl (xf 0 zaS rfl (xli 4 zaa rfl rfl (TL.callD [1] [1] (zej (p:=P1) zcl hl h) ⟨rfl,rfl,trivial⟩ ⟨rfl,trivial⟩ zky rfl rfl rfl rfl rfl (kL2 rfl rfl trivial) (xmu rfl (TL.ext (.bool false) rfl rfl rfl rfl (xei rfl rfl (TL.ext (.bool false) rfl rfl rfl rfl (xaf rfl ?_))))))))
 refine xai rfl (xaf rfl (dS (TC.seq (TC.ownW 9 rfl (fun a7 g7 c7 hv7 hc7 ha7=>?_)))))
 cases hv7
 refine TC.draw [(0,true),(1,true),(2,true),(3,true),(4,true),(5,true),(6,true),(7,false),(8,true),(9,true),(10,true),(11,true),(12,true),(13,true),(14,true),(15,true),(16,true),(17,true),(18,true),(19,true),(20,true),(21,true),(22,true),(23,false),(24,true),(25,true),(26,true)] [0,4] fc_m (by kernel_rfl) (xmt rfl (xnt rfl (xmf rfl (xmf rfl (xms rfl (xf 0 zaS rfl (xli 4 zaa rfl rfl ?_)))))))
 have hft:(fdE (fun i=>Ea[i]!) d[i]!.slot Ea.size).tr=false:=((hMa.fdE _).1 hh).2.2.2.2.trans ht
 refine TL.callD [8] [8] (zdZ haEa (zab haEa) (by omega)) ⟨rfl,rfl,trivial⟩ ⟨rfl,trivial⟩ zi0 rfl rfl rfl rfl rfl (kL2 rfl rfl trivial) ?_
 rw [hft]
 refine TL.fv 4 4 (.bool false) rfl zcB zfj rfl rfl rfl (TL.neqB rfl rfl zg3 rfl rfl ?_)
 rw [(show (!(false == false))=false from rfl)]
 refine xpF rfl (xmf rfl (xmf rfl (xmf rfl (xmf rfl (xo rfl (xo rfl (xo rfl (xo rfl ?_))))))))
 refine xo rfl (xo rfl (xo rfl (xo rfl (xo rfl (xpF rfl (TL.neqB rfl rfl zg3 rfl rfl ?_))))))
 rw [(show (!(false == false))=false from rfl)]
 refine xpF rfl (TL.done (TQ.then (TC.condF rfl (TC.skip (TQ.then (sB (xmf rfl (xnf rfl ?_))))))))
 refine dT rfl (xmi rfl (TL.eqlT rfl rfl (by omega) rfl rfl (xat rfl (dRR (TQ.blockRet (TQ.thenRet ?_))))))
 refine FQ.ret1 (v:=(.bool true)) (Bs:=[_,_,_]) [0,1,9] rfl rfl rfl ⟨rfl,rfl,rfl,trivial⟩ ?_
 first | exact ⟨rfl,_,rfl⟩ | exact ⟨congrArg Value.bool (by simp),_,rfl⟩
set_option maxHeartbeats 1000000 in
theorem zlG {pb ab mb:Nat} {σ:M} {v:Value} {d:Array EdR} {l:Lay} (hl:l.Ok) (hd:d.size≤100) {o:Op3} (hv:¬(o.u=o.v∨o.u<0∨l.V≤o.u∨o.v<0∨l.V≤o.v)) (hk:o.kind=2) {i:Nat} (e1:fsN (bwB d o.u o.v) d.size=(i:Int)) (hi:i<d.size) {k:Nat} {σ1:M} {g g2:G} {b:Int} (ht:g.tr d[i]!.slot=true) (hE1:EdgeOk l σ g) (hh:g.has d[i]!.slot=true) (h:zcr l P1 k σ d[i]!.slot=some ((true,0,false),σ1)) (hj:jdB (cutA d i) d[i]!.u d[i]!.v=false)  : Go.Eng.Fn Tryz.prog 37 [.pointer (some ⟨pb,0,none⟩),.agg #[.int .i64 o.kind,.int .i64 o.u,.int .i64 o.v]] [pt pb (.cells #[.int .i64 l.V,.int .i64 l.S,.int .i64 l.T,.pointer (some ⟨ab,0,none⟩),.int .i64 l.V,.int .i64 l.S,.int .i64 l.T,.iface 107 (.agg #[.pointer (some ⟨ab,0,none⟩)]),.int .i64 1,.int .i64 0,.int .i64 l.V,.int .i64 l.S,.int .i64 l.T,.iface 107 (.agg #[.pointer (some ⟨ab,0,none⟩)]),v] 90),zaC ab mb 149 110 (σ),ownA encE 5 65 v d] (fun x Bs=>x=.bool true∧∃ v2,Bs=[pt pb (.cells #[.int .i64 l.V,.int .i64 l.S,.int .i64 l.T,.pointer (some ⟨ab,0,none⟩),.int .i64 l.V,.int .i64 l.S,.int .i64 l.T,.iface 107 (.agg #[.pointer (some ⟨ab,0,none⟩)]),.int .i64 1,.int .i64 0,.int .i64 l.V,.int .i64 l.S,.int .i64 l.T,.iface 107 (.agg #[.pointer (some ⟨ab,0,none⟩)]),v2] 90),zaC ab mb 149 110 (σ1),ownA encE 5 65 v2 (cutA d i)]):=by
 have hlb:=zaU hl
 refine Fn.enter (Tryz.func37) rfl rfl (fun w0 R=>?_)
 refine sA (xB 3 rfl (fun bk3=>(xaf rfl (dS (TC.seq (TC.draw [(0,true),(1,true),(2,true),(3,true),(4,true),(5,true),(6,true),(7,true),(8,true),(9,true),(10,true),(11,true),(12,true),(13,true),(14,true),(15,true),(16,true),(17,true),(18,true),(19,true),(20,true),(21,true),(22,true),(23,true),(24,true),(25,true),(26,true),(27,true),(28,true),(29,true),(30,true),(31,true),(32,true),(33,true),(34,true)] [0,3] fc_m (by kernel_rfl) (xf 1 zal rfl (xli 3 zaa rfl rfl (xf 2 zan rfl ?_)))))))))
 refine xli 3 zaa rfl rfl (TL.eqlF rfl rfl (by omega) rfl rfl (xmf rfl (xf 1 zal rfl (xli 3 zaa rfl rfl (TL.lssF rfl rfl (by omega) rfl rfl (xpF rfl (xmf rfl (xf 1 zal rfl ?_))))))))
 refine xli 3 zaa rfl rfl (xmp rfl (xN0 rfl (xf 0 zaB rfl (xf 0 zap rfl (xli 0 zaa rfl rfl (TL.geqF rfl rfl (by omega) rfl rfl (xpF rfl (xmf rfl ?_))))))))
 refine xf 2 zan rfl (xli 3 zaa rfl rfl (TL.lssF rfl rfl (by omega) rfl rfl (xpF rfl (xmf rfl (xf 2 zan rfl (xli 3 zaa rfl rfl (xmp rfl (xN0 rfl ?_))))))))
 refine xf 0 zaB rfl (xf 0 zap rfl (xli 0 zaa rfl rfl (TL.geqF rfl rfl (by omega) rfl rfl (xpF rfl (dF rfl (xmp rfl (xf 1 zal rfl (xli 3 zaa rfl rfl ?_))))))))
 refine xf 2 zan rfl (xli 3 zaa rfl rfl (TL.callD [0,2] [0,2] (zbR hl hd) ⟨rfl,rfl,rfl,trivial⟩ ⟨rfl,rfl,trivial⟩ zfm rfl rfl rfl rfl rfl trivial ?_))
 rw [e1]
 refine xmp rfl (TL.callD [0,2] [0,2] (zcg hl hd) ⟨rfl,trivial⟩ ⟨rfl,rfl,trivial⟩ zfn rfl rfl rfl rfl rfl trivial (xai rfl (xai rfl (dB (xf 0 za9 rfl (xli 3 zaa rfl rfl (dK (sA ?_))))))))
 refine TL.eqlF rfl rfl (by omega) rfl rfl (xaf rfl (TL.done (TQ.then (TC.condF rfl (sA (TL.eqlT rfl rfl (by omega) rfl rfl (xat rfl (TL.done ?_))))))))
 refine TQ.then (TC.condT rfl (sB (xmi rfl (TL.lssF rfl rfl (by omega) rfl rfl (TL.done (TQ.then (TC.condF rfl (TC.skip ?_))))))))
 refine TQ.then (TC.seq (TC.ownW 2 rfl (fun a9 g9 c9 hv9 hc9 ha9=>?_)))
 cases hv9
 obtain rfl:=ha9 (by omega)
 refine TC.region (xmp rfl (xN0 rfl (xf 14 zay rfl (xlv 0 zbw rfl rfl (xmi rfl (TL.iaO rfl ha9 rfl zah (by omega) rfl rfl (TL.ldRx 2 [_,_,_,_,_] rfl rfl (zab ha9) (by omega) rfl zaV rfl rfl (TL.alloc 4 (cs:=#[.int .i64 0,.int .i64 0,.int .i64 0,.int .i64 0,.bool false]) zc0 rfl rfl rfl (fun _=>trivial) (fun bk4=>?_)))))))))
 refine TL.stW 4 5 [_,_,_,_,_] rfl rfl rfl rfl rfl rfl zaV rfl rfl trivial (dA (xmp rfl (TL.call [0,1] [0,1,5,6,7] (zd4 hl) ⟨rfl,trivial⟩ ⟨rfl,rfl,trivial⟩ zi2 rfl rfl rfl rfl ?_)))
 rintro xb Bs ⟨na,nn,nc,ca,xa,mr,bc,offc,cn,cc,bx,offx,xn,xc,Acl,Ax,fc,fx,ps,rfl,rfl,hB⟩
 refine ⟨rfl,trivial,?_⟩
 refine TL.call [5,6,7] [5,6,7,8] (zd5 hl hB hE1) ⟨rfl,trivial⟩ ⟨rfl,rfl,rfl,trivial⟩ zi3 rfl rfl rfl rfl ?_
 rintro x7 Bs ⟨vea,Ea,rfl,rfl,hMa⟩
 refine ⟨rfl,trivial,?_⟩
 refine TL.ownW 8 rfl (fun aEa gEa cEa hvEa hcEa haEa=>?_)
 subst hvEa
 have hzEa:=hMa.size_le hl hE1
 refine xmu rfl (xes rfl rfl (xet rfl rfl (xas rfl (xat rfl (dS ?_)))))
 have hAa:zaW (ownA encE 5 65 (.slice (some ⟨g9,0,none⟩) d.size c9) d) encE 5 g9 0 d.size (fun i=>d[i]!):=zab ha9
 refine TC.draw2 [(0,true),(2,true),(3,true),(4,true),(5,true),(6,true),(7,true),(9,true),(10,true),(11,true),(12,true),(13,true),(14,true),(15,true),(1,false),(8,false),(16,false),(17,true),(18,true)] 19 [] [0] fc_m (by kernel_rfl) (xmp rfl (xmp rfl (xN0 rfl (xf 14 zay rfl (xlv 0 zbw rfl rfl (xmi rfl (TL.slHi rfl rfl zah (by omega) rfl rfl (xmp rfl ?_))))))))
 refine xN0 rfl (xf 14 zay rfl (xlv 0 zbw rfl rfl (xmi rfl (TL.add (((i+1:Nat):Int)) rfl rfl (wrN (by omega)) rfl rfl (TL.slLo rfl rfl zah (by omega) rfl rfl (TL.bs0 9 encE zah rfl rfl (fun bk9=>⟨(kL1 rfl trivial),?_⟩)))))))
 obtain ⟨ad0,had0⟩:=zd8 (ad:=⟨g9,0,none⟩) (i:=0) (size:=5) (cap:=c9)
 rw [had0]
 refine TL.appS 9 2 (d2:=rngE (fun j=>d[j]!) i) rfl (zaH _ _) rfl (fun h=>had0.symm.trans (zfO (len:=d.size) (i:=0) ha9 hc9 (by omega))) rfl rfl ((hAa.take (m:=i) (by omega)).congr fun j hj=>(zcK _ hj).symm) zdg (by decide) zbH (by rw [zaH]; simp; omega) rfl rfl (fun v10=>⟨(kL1 rfl trivial),?_⟩)
 obtain ⟨ad,had⟩:=zd8 (ad:=⟨g9,0,none⟩) (i:=i+1) (size:=5) (cap:=c9)
 rw [had]
 refine TL.appS 9 2 (d2:=rngE (fun j=>d[i+1+j]!) (d.size - (i+1))) rfl (zaH _ _) rfl (fun h=>had.symm.trans (zfO (len:=d.size) ha9 hc9 h)) rfl rfl ((hAa.drop (i+1) (d.size - (i+1)) (by omega)).congr fun j hj=>(zcK (fun j=>d[i+1+j]!) hj).symm) zdg (by decide) zbH (by rw [zaH]; simp [zaH]; omega) rfl rfl (fun v11=>⟨(kL1 rfl trivial),?_⟩)
 have hcut:(#[]:Array EdR)++rngE (fun j=>d[j]!) i++rngE (fun j=>d[i+1+j]!) (d.size - (i+1))=cutA d i:=by unfold cutA; simp only [Array.empty_append]
 rw [hcut]
 have hcs:(cutA d i).size=d.size - 1:=zd3 hl hi
 refine TL.ownW 9 rfl (fun a9 g9 c9 hv9 _ _=>?_)
 cases hv9
 refine xN0 rfl (xf 14 zay rfl (TL.late (TL.st 0 #[_,_,_,_,_,_,_,_,_,_,_,_,_,_,_] _ rfl rfl rfl rfl rfl rfl zbw rfl rfl trivial (dS (TC.draw [(0,true),(1,true),(2,true),(3,true),(4,true),(5,true),(6,false),(7,true),(8,true),(9,true),(10,true),(11,true),(12,true),(13,true)] [0,4] fc_m (by kernel_rfl) (xmp rfl (xN0 rfl (xf 4 za3 rfl ?_))))))))
 refine xL10 0 za5 rfl rfl (xf 0 zaS rfl (xli 4 zaa rfl rfl (TL.callD [1] [1] (zej (p:=P1) zcl hl h) ⟨rfl,rfl,trivial⟩ ⟨rfl,trivial⟩ zky rfl rfl rfl rfl rfl (kL2 rfl rfl trivial) (xmu rfl (xet rfl rfl (xei rfl rfl (TL.ext (.bool false) rfl rfl rfl rfl (xat rfl ?_))))))))
 refine xai rfl (xaf rfl (dS (TC.seq (TC.ownW 9 rfl (fun a7 g7 c7 hv7 hc7 ha7=>?_)))))
 cases hv7
 refine TC.draw [(0,true),(1,true),(2,true),(3,true),(4,true),(5,true),(6,true),(7,false),(8,true),(9,true),(10,true),(11,true),(12,true),(13,true),(14,true),(15,true),(16,true),(17,true),(18,true),(19,true),(20,true),(21,true),(22,true),(23,false),(24,true),(25,true),(26,true)] [0,4] fc_m (by kernel_rfl) (xmt rfl (xnt rfl (xmf rfl (xmt rfl (xms rfl (xf 0 zaS rfl (xli 4 zaa rfl rfl ?_)))))))
 have hft:(fdE (fun i=>Ea[i]!) d[i]!.slot Ea.size).tr=true:=((hMa.fdE _).1 hh).2.2.2.2.trans ht
 refine TL.callD [8] [8] (zdZ haEa (zab haEa) (by omega)) ⟨rfl,rfl,trivial⟩ ⟨rfl,trivial⟩ zi0 rfl rfl rfl rfl rfl (kL2 rfl rfl trivial) ?_
 rw [hft]
 refine TL.fv 4 4 (.bool true) rfl zcB zfj rfl rfl rfl (TL.neqB rfl rfl zg3 rfl rfl ?_)
 rw [(show (!(true == true))=false from rfl)]
 refine xpF rfl (xmf rfl (xmf rfl (xmt rfl (xmt rfl (xmp rfl (xN0 rfl (xf 14 zay rfl (xlv 0 zbw rfl rfl ?_))))))))
 refine xf 1 zb6 rfl (xli 4 zaa rfl rfl (xf 2 zbx rfl (xli 4 zaa rfl rfl (TL.callD [9] [9] (zf2 ha7 (zab ha7) (by omega)) ⟨rfl,rfl,rfl,trivial⟩ ⟨rfl,trivial⟩ zkA rfl rfl rfl rfl rfl (kL2 rfl rfl trivial) ?_))))
 rw [show jnB (fun jj=>(cutA d i)[jj]!) (cutA d i).size d[i]!.u d[i]!.v=jdB (cutA d i) d[i]!.u d[i]!.v from rfl,hj]
 refine xpG rfl (TL.neqB rfl rfl zg3 rfl rfl ?_)
 rw [(show (!(false == false))=false from rfl)]
 refine xpF rfl (TL.done (TQ.then (TC.condF rfl (TC.skip (TQ.then (sB (xmf rfl (xnf rfl ?_))))))))
 refine dT rfl (xmi rfl (TL.eqlT rfl rfl (by omega) rfl rfl (xat rfl (dRR (TQ.blockRet (TQ.thenRet ?_))))))
 refine FQ.ret1 (v:=(.bool true)) (Bs:=[_,_,_]) [0,1,9] rfl rfl rfl ⟨rfl,rfl,rfl,trivial⟩ ?_
 first | exact ⟨rfl,_,rfl⟩ | exact ⟨congrArg Value.bool (by simp),_,rfl⟩
set_option maxHeartbeats 1000000 in
theorem zlF {pb ab mb:Nat} {σ:M} {v:Value} {d:Array EdR} {l:Lay} (hl:l.Ok) (hd:d.size≤100) {o:Op3} (hv:¬(o.u=o.v∨o.u<0∨l.V≤o.u∨o.v<0∨l.V≤o.v)) (hk:o.kind=2) {i:Nat} (e1:fsN (bwB d o.u o.v) d.size=(i:Int)) (hi:i<d.size) {k:Nat} {σ1:M} {g g2:G} {b:Int} (ht:g.tr d[i]!.slot=true) (hE1:EdgeOk l σ g) (hh:g.has d[i]!.slot=true) (h:zcr l P1 k σ d[i]!.slot=some ((true,b,true),σ1)) (hj:jdB (cutA d i) d[i]!.u d[i]!.v=true) (hE2:EdgeOk l σ1 g2) (hb1:g.has b=true) (hb2:g.tr b=false) (hb3:g2.has b=true) (hb4:g2.tr b=true)  : Go.Eng.Fn Tryz.prog 37 [.pointer (some ⟨pb,0,none⟩),.agg #[.int .i64 o.kind,.int .i64 o.u,.int .i64 o.v]] [pt pb (.cells #[.int .i64 l.V,.int .i64 l.S,.int .i64 l.T,.pointer (some ⟨ab,0,none⟩),.int .i64 l.V,.int .i64 l.S,.int .i64 l.T,.iface 107 (.agg #[.pointer (some ⟨ab,0,none⟩)]),.int .i64 1,.int .i64 0,.int .i64 l.V,.int .i64 l.S,.int .i64 l.T,.iface 107 (.agg #[.pointer (some ⟨ab,0,none⟩)]),v] 90),zaC ab mb 149 110 (σ),ownA encE 5 65 v d] (fun x Bs=>x=.bool true∧∃ v2,Bs=[pt pb (.cells #[.int .i64 l.V,.int .i64 l.S,.int .i64 l.T,.pointer (some ⟨ab,0,none⟩),.int .i64 l.V,.int .i64 l.S,.int .i64 l.T,.iface 107 (.agg #[.pointer (some ⟨ab,0,none⟩)]),.int .i64 1,.int .i64 0,.int .i64 l.V,.int .i64 l.S,.int .i64 l.T,.iface 107 (.agg #[.pointer (some ⟨ab,0,none⟩)]),v2] 90),zaC ab mb 149 110 (σ1),ownA encE 5 65 v2 (cutA d i)]):=by
 have hlb:=zaU hl
 refine Fn.enter (Tryz.func37) rfl rfl (fun w0 R=>?_)
 refine sA (xB 3 rfl (fun bk3=>(xaf rfl (dS (TC.seq (TC.draw [(0,true),(1,true),(2,true),(3,true),(4,true),(5,true),(6,true),(7,true),(8,true),(9,true),(10,true),(11,true),(12,true),(13,true),(14,true),(15,true),(16,true),(17,true),(18,true),(19,true),(20,true),(21,true),(22,true),(23,true),(24,true),(25,true),(26,true),(27,true),(28,true),(29,true),(30,true),(31,true),(32,true),(33,true),(34,true)] [0,3] fc_m (by kernel_rfl) (xf 1 zal rfl (xli 3 zaa rfl rfl (xf 2 zan rfl ?_)))))))))
 refine xli 3 zaa rfl rfl (TL.eqlF rfl rfl (by omega) rfl rfl (xmf rfl (xf 1 zal rfl (xli 3 zaa rfl rfl (TL.lssF rfl rfl (by omega) rfl rfl (xpF rfl (xmf rfl (xf 1 zal rfl ?_))))))))
 refine xli 3 zaa rfl rfl (xmp rfl (xN0 rfl (xf 0 zaB rfl (xf 0 zap rfl (xli 0 zaa rfl rfl (TL.geqF rfl rfl (by omega) rfl rfl (xpF rfl (xmf rfl ?_))))))))
 refine xf 2 zan rfl (xli 3 zaa rfl rfl (TL.lssF rfl rfl (by omega) rfl rfl (xpF rfl (xmf rfl (xf 2 zan rfl (xli 3 zaa rfl rfl (xmp rfl (xN0 rfl ?_))))))))
 refine xf 0 zaB rfl (xf 0 zap rfl (xli 0 zaa rfl rfl (TL.geqF rfl rfl (by omega) rfl rfl (xpF rfl (dF rfl (xmp rfl (xf 1 zal rfl (xli 3 zaa rfl rfl ?_))))))))
 refine xf 2 zan rfl (xli 3 zaa rfl rfl (TL.callD [0,2] [0,2] (zbR hl hd) ⟨rfl,rfl,rfl,trivial⟩ ⟨rfl,rfl,trivial⟩ zfm rfl rfl rfl rfl rfl trivial ?_))
 rw [e1]
 refine xmp rfl (TL.callD [0,2] [0,2] (zcg hl hd) ⟨rfl,trivial⟩ ⟨rfl,rfl,trivial⟩ zfn rfl rfl rfl rfl rfl trivial (xai rfl (xai rfl (dB (xf 0 za9 rfl (xli 3 zaa rfl rfl (dK (sA ?_))))))))
 refine TL.eqlF rfl rfl (by omega) rfl rfl (xaf rfl (TL.done (TQ.then (TC.condF rfl (sA (TL.eqlT rfl rfl (by omega) rfl rfl (xat rfl (TL.done ?_))))))))
 refine TQ.then (TC.condT rfl (sB (xmi rfl (TL.lssF rfl rfl (by omega) rfl rfl (TL.done (TQ.then (TC.condF rfl (TC.skip ?_))))))))
 refine TQ.then (TC.seq (TC.ownW 2 rfl (fun a9 g9 c9 hv9 hc9 ha9=>?_)))
 cases hv9
 obtain rfl:=ha9 (by omega)
 refine TC.region (xmp rfl (xN0 rfl (xf 14 zay rfl (xlv 0 zbw rfl rfl (xmi rfl (TL.iaO rfl ha9 rfl zah (by omega) rfl rfl (TL.ldRx 2 [_,_,_,_,_] rfl rfl (zab ha9) (by omega) rfl zaV rfl rfl (TL.alloc 4 (cs:=#[.int .i64 0,.int .i64 0,.int .i64 0,.int .i64 0,.bool false]) zc0 rfl rfl rfl (fun _=>trivial) (fun bk4=>?_)))))))))
 refine TL.stW 4 5 [_,_,_,_,_] rfl rfl rfl rfl rfl rfl zaV rfl rfl trivial (dA (xmp rfl (TL.call [0,1] [0,1,5,6,7] (zd4 hl) ⟨rfl,trivial⟩ ⟨rfl,rfl,trivial⟩ zi2 rfl rfl rfl rfl ?_)))
 rintro xb Bs ⟨na,nn,nc,ca,xa,mr,bc,offc,cn,cc,bx,offx,xn,xc,Acl,Ax,fc,fx,ps,rfl,rfl,hB⟩
 refine ⟨rfl,trivial,?_⟩
 refine TL.call [5,6,7] [5,6,7,8] (zd5 hl hB hE1) ⟨rfl,trivial⟩ ⟨rfl,rfl,rfl,trivial⟩ zi3 rfl rfl rfl rfl ?_
 rintro x7 Bs ⟨vea,Ea,rfl,rfl,hMa⟩
 refine ⟨rfl,trivial,?_⟩
 refine TL.ownW 8 rfl (fun aEa gEa cEa hvEa hcEa haEa=>?_)
 subst hvEa
 have hzEa:=hMa.size_le hl hE1
 refine xmu rfl (xes rfl rfl (xet rfl rfl (xas rfl (xat rfl (dS ?_)))))
 have hAa:zaW (ownA encE 5 65 (.slice (some ⟨g9,0,none⟩) d.size c9) d) encE 5 g9 0 d.size (fun i=>d[i]!):=zab ha9
 refine TC.draw2 [(0,true),(2,true),(3,true),(4,true),(5,true),(6,true),(7,true),(9,true),(10,true),(11,true),(12,true),(13,true),(14,true),(15,true),(1,false),(8,false),(16,false),(17,true),(18,true)] 19 [] [0] fc_m (by kernel_rfl) (xmp rfl (xmp rfl (xN0 rfl (xf 14 zay rfl (xlv 0 zbw rfl rfl (xmi rfl (TL.slHi rfl rfl zah (by omega) rfl rfl (xmp rfl ?_))))))))
 refine xN0 rfl (xf 14 zay rfl (xlv 0 zbw rfl rfl (xmi rfl (TL.add (((i+1:Nat):Int)) rfl rfl (wrN (by omega)) rfl rfl (TL.slLo rfl rfl zah (by omega) rfl rfl (TL.bs0 9 encE zah rfl rfl (fun bk9=>⟨(kL1 rfl trivial),?_⟩)))))))
 obtain ⟨ad0,had0⟩:=zd8 (ad:=⟨g9,0,none⟩) (i:=0) (size:=5) (cap:=c9)
 rw [had0]
 refine TL.appS 9 2 (d2:=rngE (fun j=>d[j]!) i) rfl (zaH _ _) rfl (fun h=>had0.symm.trans (zfO (len:=d.size) (i:=0) ha9 hc9 (by omega))) rfl rfl ((hAa.take (m:=i) (by omega)).congr fun j hj=>(zcK _ hj).symm) zdg (by decide) zbH (by rw [zaH]; simp; omega) rfl rfl (fun v10=>⟨(kL1 rfl trivial),?_⟩)
 obtain ⟨ad,had⟩:=zd8 (ad:=⟨g9,0,none⟩) (i:=i+1) (size:=5) (cap:=c9)
 rw [had]
 refine TL.appS 9 2 (d2:=rngE (fun j=>d[i+1+j]!) (d.size - (i+1))) rfl (zaH _ _) rfl (fun h=>had.symm.trans (zfO (len:=d.size) ha9 hc9 h)) rfl rfl ((hAa.drop (i+1) (d.size - (i+1)) (by omega)).congr fun j hj=>(zcK (fun j=>d[i+1+j]!) hj).symm) zdg (by decide) zbH (by rw [zaH]; simp [zaH]; omega) rfl rfl (fun v11=>⟨(kL1 rfl trivial),?_⟩)
 have hcut:(#[]:Array EdR)++rngE (fun j=>d[j]!) i++rngE (fun j=>d[i+1+j]!) (d.size - (i+1))=cutA d i:=by unfold cutA; simp only [Array.empty_append]
 rw [hcut]
 have hcs:(cutA d i).size=d.size - 1:=zd3 hl hi
 refine TL.ownW 9 rfl (fun a9 g9 c9 hv9 _ _=>?_)
 cases hv9
 refine xN0 rfl (xf 14 zay rfl (TL.late (TL.st 0 #[_,_,_,_,_,_,_,_,_,_,_,_,_,_,_] _ rfl rfl rfl rfl rfl rfl zbw rfl rfl trivial (dS (TC.draw [(0,true),(1,true),(2,true),(3,true),(4,true),(5,true),(6,false),(7,true),(8,true),(9,true),(10,true),(11,true),(12,true),(13,true)] [0,4] fc_m (by kernel_rfl) (xmp rfl (xN0 rfl (xf 4 za3 rfl ?_))))))))
 refine xL10 0 za5 rfl rfl (xf 0 zaS rfl (xli 4 zaa rfl rfl (TL.callD [1] [1] (zej (p:=P1) zcl hl h) ⟨rfl,rfl,trivial⟩ ⟨rfl,trivial⟩ zky rfl rfl rfl rfl rfl (kL2 rfl rfl trivial) (xmu rfl (xet rfl rfl (xei rfl rfl (xet rfl rfl (xat rfl ?_))))))))
 refine xai rfl (xat rfl (dS (TC.seq (TC.ownW 9 rfl (fun a7 g7 c7 hv7 hc7 ha7=>?_)))))
 cases hv7
 refine TC.draw [(0,true),(1,true),(2,true),(3,true),(4,true),(5,true),(6,true),(7,false),(8,true),(9,true),(10,true),(11,true),(12,true),(13,true),(14,true),(15,true),(16,true),(17,true),(18,true),(19,true),(20,true),(21,true),(22,true),(23,false),(24,true),(25,true),(26,true)] [0,4] fc_m (by kernel_rfl) (xmt rfl (xnt rfl (xmf rfl (xmt rfl (xms rfl (xf 0 zaS rfl (xli 4 zaa rfl rfl ?_)))))))
 have hft:(fdE (fun i=>Ea[i]!) d[i]!.slot Ea.size).tr=true:=((hMa.fdE _).1 hh).2.2.2.2.trans ht
 refine TL.callD [8] [8] (zdZ haEa (zab haEa) (by omega)) ⟨rfl,rfl,trivial⟩ ⟨rfl,trivial⟩ zi0 rfl rfl rfl rfl rfl (kL2 rfl rfl trivial) ?_
 rw [hft]
 refine TL.fv 4 4 (.bool true) rfl zcB zfj rfl rfl rfl (TL.neqB rfl rfl zg3 rfl rfl ?_)
 rw [(show (!(true == true))=false from rfl)]
 refine xpF rfl (xmf rfl (xmt rfl (xmt rfl (xmt rfl (xmp rfl (xN0 rfl (xf 14 zay rfl (xlv 0 zbw rfl rfl ?_))))))))
 refine xf 1 zb6 rfl (xli 4 zaa rfl rfl (xf 2 zbx rfl (xli 4 zaa rfl rfl (TL.callD [9] [9] (zf2 ha7 (zab ha7) (by omega)) ⟨rfl,rfl,rfl,trivial⟩ ⟨rfl,trivial⟩ zkA rfl rfl rfl rfl rfl (kL2 rfl rfl trivial) ?_))))
 rw [show jnB (fun jj=>(cutA d i)[jj]!) (cutA d i).size d[i]!.u d[i]!.v=jdB (cutA d i) d[i]!.u d[i]!.v from rfl,hj]
 refine xpT rfl (TL.neqB rfl rfl zg3 rfl rfl ?_)
 rw [(show (!(true == true))=false from rfl)]
 refine xpF rfl (TL.done (TQ.then (TC.condF rfl (TC.skip (TQ.then (sB (xmt rfl (xnt rfl ?_))))))))
 refine dF rfl (xmp rfl (TL.call [0,1] [0,1,12,13,14] (zd4 hl) ⟨rfl,trivial⟩ ⟨rfl,rfl,trivial⟩ zi2 rfl rfl rfl rfl ?_))
 rintro xb Bs ⟨na,nn,nc,ca,xa,mr,bc,offc,cn,cc,bx,offx,xn,xc,Acl,Ax,fc,fx,ps,rfl,rfl,hB⟩
 refine ⟨rfl,trivial,?_⟩
 refine TL.call [12,13,14] [12,13,14,15] (zd5 hl hB hE2) ⟨rfl,trivial⟩ ⟨rfl,rfl,rfl,trivial⟩ zi3 rfl rfl rfl rfl ?_
 rintro x7 Bs ⟨veb,Eb,rfl,rfl,hMb⟩
 refine ⟨rfl,trivial,?_⟩
 refine TL.ownW 15 rfl (fun aEb gEb cEb hvEb hcEb haEb=>?_)
 subst hvEb
 have hzEb:=hMb.size_le hl hE2
 refine xmu rfl (xes rfl rfl (xet rfl rfl (xas rfl (xat rfl (dA (xms rfl (xmi rfl ?_)))))))
 have hft:(fdE (fun i=>Ea[i]!) b Ea.size).tr=false:=((hMa.fdE _).1 hb1).2.2.2.2.trans hb2
 refine TL.callD [8] [8] (zdZ haEa (zab haEa) (by omega)) ⟨rfl,rfl,trivial⟩ ⟨rfl,trivial⟩ zi0 rfl rfl rfl rfl rfl trivial ?_
 rw [hft]
 refine TL.fv 4 4 (.bool false) rfl zcB zfj rfl rfl rfl (xnf rfl (xmt rfl (xms rfl (xmi rfl ?_))))
 have hft:(fdE (fun i=>Eb[i]!) b Eb.size).tr=true:=((hMb.fdE _).1 hb3).2.2.2.2.trans hb4
 refine TL.callD [15] [15] (zdZ haEb (zab haEb) (by omega)) ⟨rfl,rfl,trivial⟩ ⟨rfl,trivial⟩ zi0 rfl rfl rfl rfl rfl trivial ?_
 rw [hft]
 refine TL.fv 4 4 (.bool true) rfl zcB zfj rfl rfl rfl (xpT rfl (xat rfl (dR (TQ.blockRet (TQ.thenRet ?_)))))
 refine FQ.ret1 (v:=(.bool true)) (Bs:=[_,_,_]) [0,1,9] rfl rfl rfl ⟨rfl,rfl,rfl,trivial⟩ ?_
 first | exact ⟨rfl,_,rfl⟩ | exact ⟨congrArg Value.bool (by simp),_,rfl⟩
theorem ze0 {pb ab mb:Nat} {σ:M} {v:Value} {d:Array EdR} {l:Lay} (hl:l.Ok) {pr:Int→Int} {g:G} {o:Op3} (hR:R14 l pr σ g d):Go.Eng.Fn Tryz.prog 37 [.pointer (some ⟨pb,0,none⟩),.agg #[.int .i64 o.kind,.int .i64 o.u,.int .i64 o.v]] [pt pb (.cells #[.int .i64 l.V,.int .i64 l.S,.int .i64 l.T,.pointer (some ⟨ab,0,none⟩),.int .i64 l.V,.int .i64 l.S,.int .i64 l.T,.iface 107 (.agg #[.pointer (some ⟨ab,0,none⟩)]),.int .i64 1,.int .i64 0,.int .i64 l.V,.int .i64 l.S,.int .i64 l.T,.iface 107 (.agg #[.pointer (some ⟨ab,0,none⟩)]),v] 90),zaC ab mb 149 110 (σ),ownA encE 5 65 v d] (fun x Bs=>x=.bool true∧∃ σ2 v2 d2 g2,Bs=[pt pb (.cells #[.int .i64 l.V,.int .i64 l.S,.int .i64 l.T,.pointer (some ⟨ab,0,none⟩),.int .i64 l.V,.int .i64 l.S,.int .i64 l.T,.iface 107 (.agg #[.pointer (some ⟨ab,0,none⟩)]),.int .i64 1,.int .i64 0,.int .i64 l.V,.int .i64 l.S,.int .i64 l.T,.iface 107 (.agg #[.pointer (some ⟨ab,0,none⟩)]),v2] 90),zaC ab mb 149 110 (σ2),ownA encE 5 65 v2 d2]∧R14 l pr σ2 g2 d2∧LvUp g g2∧(o.kind=1→InsR l o d g d2 g2)):=by
 have hsz:=hR.size hl
 have hd:d.size≤100:=by have:=hl.2.2.1; omega
 have lb:=zb9 hl
 have nop:(o.kind=1→¬Val3 l o∨(∃ j,j<d.size∧bwB d o.u o.v j=true)∨d.size=l.S)→∀ {x:Value} {Bs:List Assn},(x=.bool true∧∃ v2,Bs=[pt pb (.cells #[.int .i64 l.V,.int .i64 l.S,.int .i64 l.T,.pointer (some ⟨ab,0,none⟩),.int .i64 l.V,.int .i64 l.S,.int .i64 l.T,.iface 107 (.agg #[.pointer (some ⟨ab,0,none⟩)]),.int .i64 1,.int .i64 0,.int .i64 l.V,.int .i64 l.S,.int .i64 l.T,.iface 107 (.agg #[.pointer (some ⟨ab,0,none⟩)]),v2] 90),zaC ab mb 149 110 (σ),ownA encE 5 65 v2 d])→x=.bool true∧∃ σ2 v2 d2 g2,Bs=[pt pb (.cells #[.int .i64 l.V,.int .i64 l.S,.int .i64 l.T,.pointer (some ⟨ab,0,none⟩),.int .i64 l.V,.int .i64 l.S,.int .i64 l.T,.iface 107 (.agg #[.pointer (some ⟨ab,0,none⟩)]),.int .i64 1,.int .i64 0,.int .i64 l.V,.int .i64 l.S,.int .i64 l.T,.iface 107 (.agg #[.pointer (some ⟨ab,0,none⟩)]),v2] 90),zaC ab mb 149 110 (σ2),ownA encE 5 65 v2 d2]∧R14 l pr σ2 g2 d2∧LvUp g g2∧(o.kind=1→InsR l o d g d2 g2):=fun hn {x Bs} ⟨h1,v2,h2⟩=>⟨h1,σ,v2,d,g,h2,hR,LvUp.refl,fun hk=>.inl ⟨rfl,rfl,hn hk⟩⟩
 by_cases n0:o.u=o.v
 ·exact (zlA hl hd n0).mono fun _ _=>nop fun _=>.inl fun hc=>hc.1 n0
 by_cases n1:o.u<0
 ·exact (zlz hl hd n0 n1).mono fun _ _=>nop fun _=>.inl fun hc=>absurd hc.2.1 (by omega)
 by_cases n2:l.V≤o.u
 ·exact (zly hl hd n0 n1 n2).mono fun _ _=>nop fun _=>.inl fun hc=>absurd hc.2.2.1 (by omega)
 by_cases n3:o.v<0
 ·exact (zlx hl hd n0 n1 n2 n3).mono fun _ _=>nop fun _=>.inl fun hc=>absurd hc.2.2.2.1 (by omega)
 by_cases n4:l.V≤o.v
 ·exact (zlw hl hd n0 n1 n2 n3 n4).mono fun _ _=>nop fun _=>.inl fun hc=>absurd hc.2.2.2.2 (by omega)
 have hv:¬(o.u=o.v∨o.u<0∨l.V≤o.u∨o.v<0∨l.V≤o.v):=by omega
 by_cases hk:¬(o.kind=1∨o.kind=2∨o.kind=3)
 ·exact (zlB hl hd hv hk).mono fun _ _=>nop fun h1=>absurd (.inl h1) hk
 replace hk:=Decidable.not_not.1 hk
 rcases hk with hk | hk | hk
 ·rcases zfh (P:=bwB d o.u o.v) (n:=d.size) with ⟨e1,hn1⟩ | ⟨i,hi,e1,hb,_⟩
  ·rcases zfh (P:=noS d) (n:=l.S) with ⟨e2,hn2⟩ | ⟨s,hs,e2,hb2,_⟩
   ·exact (zlD hl hd hv hk e1 e2).mono fun _ _=>nop fun _=>.inr (.inr (hR.full hl hn2))
   ·obtain ⟨σ1,g1,e,hR1,hLv,hg1⟩:=hR.ins hl (s:=s) (u:=o.u) (v:=o.v) (by omega) (by omega) (by omega) n0 (of_decide_eq_true hb2) hn1
    exact (znI hl hd hv hk e1 e2 (by omega) e).mono fun _ _ ⟨h1,v2,h2⟩=>⟨h1,σ1,v2,_,g1,h2,hR1,hLv,fun _=>.inr ⟨⟨n0,by omega,by omega,by omega,by omega⟩,s,of_decide_eq_true hb2,rfl,hg1⟩⟩
  ·exact (zlE hl hd hv hk e1 hi).mono fun _ _=>nop fun _=>.inr (.inl ⟨i,hi,hb⟩)
 ·rcases zfh (P:=bwB d o.u o.v) (n:=d.size) with ⟨e1,hn1⟩ | ⟨i,hi,e1,hb,_⟩
  ·exact (zlC hl hd hv hk e1).mono fun _ _=>nop fun h1=>by omega
  ·obtain ⟨b,ob,σ1,g1,e,hR1,hLv,ho,hb0,hb1,_⟩:=hR.del hl hi
   have hE1:EdgeOk l σ g:=by obtain ⟨F,mk,L,hI⟩:=hR.rt; exact hI.edges
   have hE2:EdgeOk l σ1 g1:=by obtain ⟨F,mk,L,hI⟩:=hR1.rt; exact hI.edges
   have hh:=(hR.dc.row i hi).1
   cases ht:g.tr d[i]!.slot with
   | false =>
    rw [ht] at ho e
    have ho2:ob=false:=ho
    rw [ho2,hb0 ho2] at e
    exact (zlH (b:=0) (g2:=g) hl hd hv hk e1 hi ht hE1 hh e).mono fun _ _ ⟨h1,v2,h2⟩=>⟨h1,σ1,v2,_,g1,h2,hR1,hLv,fun h1=>by omega⟩
   | true =>
    rw [ht] at ho e
    rw [Bool.true_and] at ho
    cases hob:ob with
    | false =>
     rw [hob,hb0 hob] at e
     exact (zlG (b:=0) (g2:=g) hl hd hv hk e1 hi ht hE1 hh e (ho.symm.trans hob)).mono fun _ _ ⟨h1,v2,h2⟩=>⟨h1,σ1,v2,_,g1,h2,hR1,hLv,fun h1=>by omega⟩
    | true =>
     rw [hob] at e
     obtain ⟨c1,c2,c3,c4⟩:=hb1 hob
     exact (zlF hl hd hv hk e1 hi ht hE1 hh e (ho.symm.trans hob) hE2 c1 c2 c3 c4).mono fun _ _ ⟨h1,v2,h2⟩=>⟨h1,σ1,v2,_,g1,h2,hR1,hLv,fun h1=>by omega⟩
 ·exact (znH hl hd hv hk (hR.joined hl (by omega) (by omega))).mono fun _ _=>nop fun h1=>by omega
theorem zcT  : FnD Tryz.prog 35 [] [] (.bool true) []:=by
 obtain ⟨a1,a2,a3,a4,a5,d0,g0,h1,h2,h3,h4,h5,hR0⟩:=zor
 refine Fn.enter (Tryz.func35) rfl rfl (fun w0 R=>?_)
 refine TC.seq (TC.nilA 0 (A:=fun _=>True) trivial (TC.region (xaf rfl (dA (TL.bld [.int .i64 0,.int .i64 0,.int .i64 0] [(.int _ _),(.int _ _),(.int _ _)] [_,_,_] zoS zq6 ⟨rfl,rfl,rfl,trivial⟩ ⟨rfl,rfl⟩ rfl rfl (TL.bld [.int .i64 0,.int .i64 0,.int .i64 0,.slice none 0 0,.slice none 0 0] [(.agg _)] [_,_,_,_,_] zqR zq0 ⟨rfl,trivial⟩ ⟨rfl,rfl⟩ rfl rfl ?_))))))
 refine TL.call [0] [0,1,2,3] (zfL (l:=l14) (da:=none) (oa:=none) (dn:=0) (dc:=0) (on:=0) (oc:=0) (Ad:=fun _=>True) (bd:=0) (offd:=0) (fd:=fun _=>0) zc8 (fun h=>absurd h (Nat.lt_irrefl 0)) (fun _ _ i hi=>absurd hi (Nat.not_lt_zero i)) (fun i hi=>absurd hi (Nat.not_lt_zero i)) (by decide)) ⟨rfl,trivial⟩ ⟨rfl,trivial⟩ zmN rfl rfl rfl rfl ?_
 rintro x Bs ⟨pb,ab,mb,rfl,rfl⟩
 refine ⟨rfl,trivial,?_⟩
 refine xap rfl (dB (xmp rfl (TL.nilP false rfl rfl zmI rfl rfl rfl (TL.done (TQ.then (TC.condF rfl (TC.skip (TQ.then ?_))))))))
 refine TC.seq (TC.draw [(0,true),(1,true),(2,true),(3,true),(5,true),(6,true),(7,true),(8,true),(10,true),(11,true),(12,true),(13,true),(4,false),(9,false),(14,false),(15,true),(16,true),(17,true)] [1] fc_m (by kernel_rfl) (xmp rfl (xN0 rfl (xf 4 za3 rfl (xL10 1 za5 rfl rfl (xmp rfl (xN0 rfl (xf 4 za3 rfl ?_))))))))
 refine xL10 1 za5 rfl rfl (xmp rfl (xN0 rfl (xf 4 za3 rfl (xL10 1 za5 rfl rfl (TL.callD [2] [2] (zei (p:=P1) zcl zc8 h1) ⟨rfl,rfl,rfl,rfl,trivial⟩ ⟨rfl,trivial⟩ zkz rfl rfl rfl rfl rfl (kL1 rfl trivial) (TL.callD [2] [2] (zei (p:=P1) zcl zc8 h2) ⟨rfl,rfl,rfl,rfl,trivial⟩ ⟨rfl,trivial⟩ zkz rfl rfl rfl rfl rfl (kL1 rfl trivial) (TL.callD [2] [2] (zei (p:=P1) zcl zc8 h3) ⟨rfl,rfl,rfl,rfl,trivial⟩ ⟨rfl,trivial⟩ zkz rfl rfl rfl rfl rfl (kL1 rfl trivial) (xat rfl ?_))))))))
 refine xat rfl (xaf rfl (dA (xmp rfl (xN0 rfl (xf 4 za3 rfl (xL10 1 za5 rfl rfl (TL.callD [2] [2] (zej (p:=P1) zcl zc8 h4) ⟨rfl,rfl,trivial⟩ ⟨rfl,trivial⟩ zky rfl rfl rfl rfl rfl trivial (xmu rfl ?_))))))))
 refine xet rfl rfl (xei rfl rfl (xet rfl rfl (xat rfl (xai rfl (xat rfl (dA (xmt rfl (xmt rfl ?_))))))))
 refine xmt rfl (xpT rfl (xmt rfl (xmf rfl (xnf rfl (xpT rfl (xmt rfl (xmt rfl (xpT rfl ?_))))))))
 refine xmt rfl (xmi rfl (TL.eqlT rfl rfl rfl rfl rfl (xpT rfl (xmt rfl (xmt rfl (xpT rfl (xmt rfl (xmp rfl ?_))))))))
 refine xN0 rfl (xf 4 za3 rfl (xL10 1 za5 rfl rfl (TL.callD [2] [2] (zdX (p:=P1) zcl zc8 h5) ⟨rfl,rfl,rfl,trivial⟩ ⟨rfl,trivial⟩ zi1 rfl rfl rfl rfl rfl trivial (xpT rfl (xmt rfl (xmp rfl (TL.call [1,2] [1,2,4,5,6] (zd4 zc8) ⟨rfl,trivial⟩ ⟨rfl,rfl,trivial⟩ zi2 rfl rfl rfl rfl ?_)))))))
 rintro xb Bs ⟨na,nn,nc,ca,xa,mr,bc,offc,cn,cc,bx,offx,xn,xc,Acl,Ax,fc,fx,ps,rfl,rfl,hB⟩
 refine ⟨rfl,trivial,?_⟩
 refine TL.callD [4,5,6] [4,5,6] (znh zc8 hB hR0.rt (fun _=>hR0.hd.strict)) ⟨rfl,rfl,trivial⟩ ⟨rfl,rfl,rfl,trivial⟩ zrt rfl rfl rfl rfl rfl trivial (xpT rfl (xat rfl (dR ?_)))
 refine FQ.ret1 (v:=(.bool true)) (Bs:=[]) [] rfl rfl rfl trivial ?_
 exact ⟨rfl,rfl⟩
end Go.Proofs.YtfmjfdbmpkcndaaGreat
