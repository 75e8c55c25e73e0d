import Derived.Test.YtabjfnfglcghfaaGreatConC
set_option linter.unusedVariables false
set_option linter.unusedSimpArgs false
set_option maxRecDepth 20000
namespace Go.Proofs.YtabjfnfglcghfaaGreat
open Go.Eng Go.Tm
theorem zpe {a:Option Addr} {b off n c:Nat} {A:Assn} {f:Nat->EdR} (ha:0<n->a=some ⟨b,off,none⟩) (hA:za8 A encE 5 b off n f) (hn:n<=300) {u v:Int}:FnD Tryz.prog 56 [.slice a n c,.int .i64 u,.int .i64 v] [A] (.bool (jnB f n u v)) [A]:=by
 refine Fn.enter (Tryz.func56) Z Z (fun w0 R=>?_)
 refine sA (xaf Z (dA (TL.asg (.slice none 0 0) Z Z Z (dS (TC.seq (TC.nilA 1 (A:=ownA encP 2 122 (.slice none 0 0) #[]) (.inl ⟨Z,Z⟩) (TC.region (xai Z ?_))))))))
 refine dK (TC.loopK (X:=Nat×Value) [0,1,2,6] [0] (fun ⟨i,x⟩=>[(8,.int .i64 ((i:Nat):Int)),(7,x)]) (fun ⟨i,x⟩=>[(1,ownA encP 2 122 x (prN f i))]) (fun ⟨i,x⟩=>i<=n) (fun ⟨i,x⟩=>n - i) ((0,.slice none 0 0)) (Nat.zero_le _) ⟨Z,Z,Zt⟩ ⟨Z,Zt⟩ (fun y hI=>?_))
 obtain ⟨i,x⟩:=y
 replace hI:i<=n:=hI
 refine TC.sub (env':=[(8,_),(7,_),(0,_),(1,_),(2,_),(6,_)]) (L':=[(1,_),(0,_)]) ⟨Z,Z,Z,Z,Z,Z,Zt⟩ ⟨Z,Z,Zt⟩ (sB (xmi Z (xms Z (xz zaW Z (TL.lss Z Z Z Z (fun q1=>?_) (fun q1=>?_))))))
 refine TL.done (TQ.then (TC.condT Z (TC.skip (TQ.then (TC.seq (TC.block (TC.draw (od [1,3,5,7,9,11,13,15,17,19,21,23,24,26,29]) [0] fc_m (by kernel_rfl) (xmv Z ?_))))))))
 refine xms Z (xmi Z (TL.iaO Z ha Z zaW (by omega) Z Z (xf 1 zeX Z (TL.ldRF 0 (.int _ _) Z Z hA (by omega) (zoB _).1 Z zaa Z Z (xms Z (xmi Z (TL.iaO Z ha Z zaW (by omega) Z Z (xf 2 zge Z ?_))))))))
 refine TL.ldRF 0 (.int _ _) Z Z hA (by omega) (zoB _).1 Z zaa Z Z (TL.bldA [.int .i64 0,.int .i64 0] [(.int _ _),(.int _ _)] [_,_] zlS zcb ⟨Z,Z,Zt⟩ ⟨Z,Z⟩ Z Z (TL.bsN 2 [_] (encP ((f i).u,(f i).v)) zd4 zlS ⟨Z,Zt⟩ Z (lit1 Z) Z Z (fun bk2=>⟨(kL1 Z Zt),?_⟩)))
 refine TL.appS 1 2 (d2:=#[((f i).u,(f i).v)]) Z (Z) Z (fun _=>Z) Z Z (row1 Z) zvV (by decide) zlU (by rw [zf9]; simp; omega) Z Z (fun v3=>⟨(kL1 Z Zt),?_⟩)
 refine xav Z (dI (xmi Z (TL.add (((i+1:Nat):Int)) Z Z (wrN (by omega)) Z Z (xai Z (TL.done (TQ.roundK ((i+1,_)) ⟨(show i+1<=n by omega),(show n - (i+1)<n - i by omega)⟩ ⟨Z,Z,Zt⟩ ⟨Z,Zt⟩ (kE4 Z Z Z Z Zt) (kL1 Z Zt)))))))
 refine dE Z (TC.seq ?_)
 obtain rfl:i=n:=by omega
 have hps:=zf9 (f:=f) (n:=i)
 refine TC.ownW 1 Z (fun a8 g8 c8 hv8 hc8 ha8=>?_)
 cases hv8
 refine TC.region (xmv Z (xmi Z (xmi Z (xD [1] (zvL ha8 (zas ha8) (by omega)) zzx Z (xab Z (dR ?_))))))
 refine FQ.ret1 (v:=(.bool _)) (Bs:=[A]) [0] Z Z Z ⟨Z,Zt⟩ ?_
 exact ⟨Z,Z⟩
theorem zjo {d:Array EdR} {wv:Value} {a b w:Int} {bw bu bv:Nat} (hd:d.size<=100):FnD Tryz.prog 55 [.int .i64 w,.pointer (some ⟨bw,0,none⟩),.pointer (some ⟨bu,0,none⟩),.pointer (some ⟨bv,0,none⟩)] [pt bw (.cells #[wv] 55),pt bu (.cells #[.int .i64 a] 3),pt bv (.cells #[.int .i64 b] 3),ownA encE 5 80 wv d] (.bool (jdB d w a || jdB d w b)) [pt bw (.cells #[wv] 55),pt bu (.cells #[.int .i64 a] 3),pt bv (.cells #[.int .i64 b] 3),ownA encE 5 80 wv d]:=by
 refine Fn.enter (Tryz.func55) Z Z (fun w0 R=>?_)
 refine TC.seq (TC.ownW 3 Z (fun a9 g9 c9 hv9 hc9 ha9=>?_))
 subst hv9
 refine TC.region (xaf Z (dA (xls 0 zel Z Z (xmi Z (xli 1 zaa Z Z (xD [3] (zpe ha9 (zas ha9) (by omega)) zw0 Z ?_))))))
 rw [show jnB (fun j=>d[j]!) d.size w a=jdB d w a from Z]
 refine TL.cases rfl (fun q1=>?_) (fun q1=>?_)
 refine xmt Z (xo Z (xo Z (xo Z (xo Z (xpT Z (xat Z (dR ?_)))))))
 refine FQ.ret1 (v:=(.bool true)) (Bs:=[_,_,_,_]) [0,1,2,3] Z Z Z ⟨Z,Z,Z,Z,Zt⟩ ?_
 exact ⟨congrArg Value.bool (by simp [*]),Z⟩
 refine xmf Z (xls 0 zel Z Z (xmi Z (xli 2 zaa Z Z (xD [3] (zpe ha9 (zas ha9) (by omega)) zw0 Z ?_))))
 rw [show jnB (fun j=>d[j]!) d.size w b=jdB d w b from Z]
 refine TL.pickF (.bool _) Z Z Z Z (xab Z (dR ?_))
 refine FQ.ret1 (v:=(.bool _)) (Bs:=[_,_,_,_]) [0,1,2,3] Z Z Z ⟨Z,Z,Z,Z,Zt⟩ ?_
 exact ⟨congrArg Value.bool (by simp [*]),Z⟩
set_option maxHeartbeats 1000000 in
theorem zi9 {l:Lay} (hl:l.Ok) {pb ab bp bw bu bv bn:Nat} {tg a b q:Int} {v2 wv:Value} {d d2:Array EdR} (hd:d.size<=100) (hd2:d2.size<=100) (hs:zz0 d d2 a b q):FnD Tryz.prog 57 [.int .i64 q,.pointer (some ⟨bw,0,none⟩),.pointer (some ⟨bp,0,none⟩),.pointer (some ⟨bn,0,none⟩)] [pt pb (.cells #[.int .i64 l.V,.int .i64 l.S,.int .i64 l.T,.pointer (some ⟨ab,0,none⟩),.int .i64 (tg),v2] 57),ownA encE 5 80 v2 d2,pt bp (.cells #[.pointer (some ⟨pb,0,none⟩)] 46),pt bw (.cells #[wv] 55),pt bu (.cells #[.int .i64 a] 3),pt bv (.cells #[.int .i64 b] 3),ownA encE 5 80 wv d,pt bn (.cells #[.func (.func 55) #[] #[.pointer (some ⟨bw,0,none⟩),.pointer (some ⟨bu,0,none⟩),.pointer (some ⟨bv,0,none⟩)]] 95)] (.bool true) [pt pb (.cells #[.int .i64 l.V,.int .i64 l.S,.int .i64 l.T,.pointer (some ⟨ab,0,none⟩),.int .i64 (tg),v2] 57),ownA encE 5 80 v2 d2,pt bp (.cells #[.pointer (some ⟨pb,0,none⟩)] 46),pt bw (.cells #[wv] 55),pt bu (.cells #[.int .i64 a] 3),pt bv (.cells #[.int .i64 b] 3),ownA encE 5 80 wv d,pt bn (.cells #[.func (.func 55) #[] #[.pointer (some ⟨bw,0,none⟩),.pointer (some ⟨bu,0,none⟩),.pointer (some ⟨bv,0,none⟩)]] 95)]:=by
 refine Fn.enter (Tryz.func57) Z Z (fun w0 R=>?_)
 refine TC.seq (TC.ownW 6 Z (fun a9 g9 c9 hv9 hc9 ha9=>?_))
 subst hv9
 refine TC.ownW 1 Z (fun a8 g8 c8 hv8 hc8 ha8=>?_)
 subst hv8
 refine TC.region (xaf Z (dS (TC.seq (TC.draw (od [3,7,9,11,13,19,0,4,14,17]) [0,2,3] fc_m (by kernel_rfl) (xls 3 zel Z Z (xlp 2 zfU Z Z (xN0 Z (xf 5 zbU Z ?_))))))))
 refine xls 0 zel Z Z (xmi Z (TL.bs0 8 encE zaW Z Z (fun bk8=>⟨(kL3 Z Z Z Zt),?_⟩)))
 refine TL.appQ 8 6 (d2:=d) Z (Z) Z (ha9) Z Z (zas ha9) zgi (by decide) zdu (by simp; omega) Z Z (fun v9=>⟨(kL3 Z Z Z Zt),?_⟩)
 rw [Array.empty_append]
 refine TL.appQ 8 1 (d2:=d2) Z (Z) Z (ha8) Z Z (zas ha8) zgi (by decide) zdu (by omega) Z Z (fun v10=>⟨(kL3 Z Z Z Zt),?_⟩)
 refine TL.ownW 8 Z (fun a6 g6 c6 hv6 hc6 ha6=>?_)
 cases hv6
 have hsz6:(d++d2).size=d.size+d2.size:=Array.size_append
 refine xz zaW Z (dK (TC.loopK (X:=Nat) [0,3,15,16] [0,1,2,3,4,5,6,7,8] (fun i=>[(17,.int .i64 ((i:Nat):Int))]) (fun i=>[]) (fun i=>i<=(d++d2).size/\∀ j,j<i->¬((d++d2)[j]!.slot=q/\zls d a b (d++d2)[j]!.u)) (fun i=>(d++d2).size - i) (0) ⟨Nat.zero_le _,fun j hj=>absurd hj (Nat.not_lt_zero j)⟩ ⟨Z,Zt⟩ Zt (fun i hI=>?_)))
 obtain ⟨hi,hno⟩:=hI
 refine TC.sub (env':=[(17,_),(0,_),(3,_),(15,_),(16,_)]) (L':=[(0,_),(1,_),(2,_),(3,_),(4,_),(5,_),(6,_),(7,_),(8,_)]) ⟨Z,Z,Z,Z,Z,Zt⟩ ⟨Z,Z,Z,Z,Z,Z,Z,Z,Z,Zt⟩ (sA (TL.lss Z Z Z Z (fun q1=>?_) (fun q1=>?_)))
 refine dS (TC.condT Z (TC.skip (TQ.then (TC.seq (TC.block (sA (TL.iaO Z ha6 Z zaW (by omega) Z Z (TL.ldRx 8 [_,_,_,_,_] Z Z (zas ha6) (by omega) Z zeE Z Z ?_))))))))
 refine TL.alloc 11 (cs:=#[.int .i64 0,.int .i64 0,.int .i64 0,.int .i64 0,.bool false]) zkD Z Z Z (fun _=>Zt) (fun bk11=>(TL.stW 11 5 [_,_,_,_,_] Z Z Z Z Z Z zeE Z Z Zt (dA (xf 0 zeY Z (xli 11 zaa Z Z (xmi Z (TL.eql Z Z Z Z (fun q2=>?_) (fun q2=>?_))))))))
 refine xmt Z (xlv 7 zkE Z Z (xf 1 zeX Z (xli 11 zaa Z Z (TL.callCF (c1:=[]) (c2:=[.pointer (some ⟨bw,0,none⟩),.pointer (some ⟨bu,0,none⟩),.pointer (some ⟨bv,0,none⟩)]) (vs:=[_]) [3,4,5,6] [3,4,5,6] Z (zjo hd) ⟨Z,Zt⟩ ⟨Z,Z,Z,Z,Zt⟩ zng Z Z Z Z ?_))))
 rintro r9 Bs ⟨rfl,rfl⟩
 refine ⟨Z,Zt,?_⟩
 refine TL.pickT (.bool _) Z Z Z Z (TL.done (TQ.then (TC.cond Z (fun q3=>?_) (fun q3=>?_))))
 refine sA (xat Z (dR (TQ.blockRet (TQ.thenRet (TQ.thenRet (TQ.blockRet (TQ.thenRet ?_)))))))
 refine FQ.ret1 (v:=(.bool true)) (Bs:=[_,_,_,_,_,_,_,_]) [0,1,2,3,4,5,6,7] Z Z Z ⟨Z,Z,Z,Z,Z,Z,Z,Z,Zt⟩ ?_
 exact ⟨Z,Z⟩
 refine TC.skip (TQ.inBlock (TQ.then (TC.region (TL.add (((i+1:Nat):Int)) Z Z (wrN (by omega)) Z Z (xmi Z (TL.done (TQ.roundK (i+1) ⟨⟨by omega,zqf hno fun c=>zAj (by assumption) c.2⟩,by omega⟩ ⟨Z,Zt⟩ Zt (kE4 Z Z Z Z Zt) (kL8 Z Z Z Z Z Z Z Z (kL1 Z Zt)))))))))
 refine xmf Z (xo Z (xo Z (xo Z (xo Z (xpF Z (TL.done (TQ.then (TC.condF Z ?_))))))))
 refine TC.skip (TQ.inBlock (TQ.then (TC.region (TL.add (((i+1:Nat):Int)) Z Z (wrN (by omega)) Z Z (xmi Z (TL.done (TQ.roundK (i+1) ⟨⟨by omega,zqf hno fun c=>absurd c.1 (by assumption)⟩,by omega⟩ ⟨Z,Zt⟩ Zt (kE4 Z Z Z Z Zt) (kL8 Z Z Z Z Z Z Z Z (kL1 Z Zt)))))))))
 refine dS (TC.condF Z (TC.exit (TQ.thenExit (TQ.thenExit (TQ.blockHere (TQ.then (sA (xaf Z ?_))))))))
 refine dR ?_
 refine FQ.ret1 (v:=(.bool false)) (Bs:=[_,_,_,_,_,_,_,_]) [0,1,2,3,4,5,6,7] Z Z Z ⟨Z,Z,Z,Z,Z,Z,Z,Z,Zt⟩ ?_
 exfalso; obtain ⟨i2,h1,h2,h3⟩:=hs; exact hno i2 (by omega) ⟨h2,h3⟩
theorem zqO {l:Lay} (hl:l.Ok) {pb ab:Nat} {tg:Int} {av:Value}:Go.Eng.Fn Tryz.prog 51 [.pointer (some ⟨pb,0,none⟩)] [pt pb (.cells #[.int .i64 l.V,.int .i64 l.S,.int .i64 l.T,.pointer (some ⟨ab,0,none⟩),.int .i64 (tg),av] 57)] (fun x Bs=>∃ d:Array Nm,Bs=[pt pb (.cells #[.int .i64 l.V,.int .i64 l.S,.int .i64 l.T,.pointer (some ⟨ab,0,none⟩),.int .i64 (tg),av] 57),ownA encN 4 98 x d]/\NI l d/\(d.size:Int)=l.cells):=by
 refine Fn.enter (Tryz.func51) Z Z (fun w0 R=>?_)
 refine sA (TL.asg (.slice none 0 0) Z Z Z (dA (xmp Z (xN0 Z (xf 0 zaL Z (xL3 0 zac Z Z (xD [] zli zth Z (TL.call [] [1] (zrV hl) ⟨Z,Zt⟩ Zt zzv Z Z Z Z ?_))))))))
 rintro x9 Bs ⟨d,rfl,hN,hsz⟩
 refine ⟨Z,Zt,?_⟩
 refine xav Z (dR ?_)
 refine FQ.ret1 (v:=_) (Bs:=[_,_]) [0,1] Z Z Z ⟨Z,Z,Zt⟩ ?_
 exact ⟨d,Z,hN,hsz⟩
theorem zuZ {V S T:Int}  {da oa:Option Addr} {dn dc on oc:Nat} (hno:¬(okL V S T/\V<=6/\S<=8/\dn<=60/\on<=24)):FnD Tryz.prog 8 [.agg #[.int .i64 V,.int .i64 S,.int .i64 T,.slice da dn dc,.slice oa on oc]] [] (.bool true) []:=by
 refine Fn.enter (Tryz.func8) Z Z (fun w0 R=>?_)
 refine sA (xB 0 Z (fun bk0=>(xaf Z (dB (xL5 0 zl5 Z Z (xD [] zko zw5 Z ?_))))))
 rw [decide_eq_false hno]
 refine xnf Z (dT Z (xD [] zkV zw7 Z (xat Z (dRR ?_))))
 refine FQ.ret1 (v:=(.bool true)) (Bs:=[]) [] Z Z Z Zt ?_
 exact ⟨Z,Z⟩
set_option maxHeartbeats 1000000 in
theorem zu0 {l:Lay} (hl:l.Ok) {da oa:Option Addr} {dn dc on oc:Nat} {Ad:Assn} {bd offd bo offo:Nat} {fd:Nat->Int} {fo:Nat->Op3} (hda:0<dn->da=some ⟨bd,offd,none⟩) (hAd:za8 Ad encU 1 bd offd dn fd) (hfd:∀ i,i<dn->0<=fd i/\fd i<18446744073709551616) (hoa:0<on->oa=some ⟨bo,offo,none⟩) (hAo:za8 Ad zzC 3 bo offo on fo) (hoc:on<=oc) (hok:(okL l.V l.S l.T/\(l.V:Int)<=6/\(l.S:Int)<=8/\dn<=60/\on<=24)):FnD Tryz.prog 8 [.agg #[.int .i64 l.V,.int .i64 l.S,.int .i64 l.T,.slice da dn dc,.slice oa on oc]] [Ad] (.bool true) [Ad]:=by
 obtain ⟨hk1,hk2,hk3,hk4,hk5⟩:=hok
 have hok:(okL l.V l.S l.T/\(l.V:Int)<=6/\(l.S:Int)<=8/\dn<=60/\on<=24):=⟨hk1,hk2,hk3,hk4,hk5⟩
 have hdn:dn<=60:=by omega
 have hon:on<=24:=by omega
 have hnb:=zaD hl
 have hcb:=zdj hl
 have hlb:=zcq hl
 have hob:=zb9 hl
 have hlk:=zei hl
 have hhd:l.heads=l.T+1+l.S * 7:=rfl
 have hT:1<=l.T:=by omega
 refine Fn.enter (Tryz.func8) Z Z (fun w0 R=>?_)
 refine sA (xB 1 Z (fun bk1=>(xaf Z (dB (xL5 1 zl5 Z Z (xD [] zko zw5 Z ?_))))))
 rw [decide_eq_true hok]
 refine xnt Z (dF Z (xL5 1 zl5 Z Z (TL.call [0] [0,2,3] (zkU hl hda hAd hfd (by omega)) ⟨Z,Zt⟩ ⟨Z,Zt⟩ zw4 Z Z Z Z ?_)))
 rintro x Bs ⟨pb,ab,mb,rfl,rfl⟩
 refine ⟨Z,Zt,?_⟩
 have h0:=P19.born hl (zuq hl hfd (N:=l.cells.toNat) (by omega))
 refine TL.alloc 4 (cs:=#[.pointer none]) zAx Z Z Z (fun _=>Zt) (fun bk4=>(TL.st 4 #[_] (.pointer (some ⟨_,_,none⟩)) Z Z Z Z Z Z zfU Z Z Zt (dB (xlp 4 zfU Z Z (TL.nilP false Z Z zwV Z Z Z (TL.done (TQ.then (TC.condF Z (TC.skip ?_)))))))))
 refine TQ.then (TC.seq (TC.draw (od [1,5,7,9,11,2,12,14,17,19]) [2,4] fc_m (by kernel_rfl) (xlp 4 zfU Z Z (xlp 4 zfU Z Z (xN0 Z (xf 0 zaL Z (xL3 2 zac Z Z (TL.call [2] [2,5] (zqO hl) ⟨Z,Zt⟩ ⟨Z,Zt⟩ zAP Z Z Z Z ?_))))))))
 rintro x9 Bs ⟨nmA,rfl,hNI,hnz⟩
 refine ⟨Z,(kL2 Z Z Zt),?_⟩
 refine TL.ownW 5 Z (fun a5 g5 c5 hv5 hc5 ha5=>?_)
 subst hv5
 refine xd [] zli zth Z (kL2 Z Z Zt) (TL.call [] [6] (zmD hl) ⟨Z,Zt⟩ Zt zw1 Z Z Z Z ?_)
 rintro x9 Bs ⟨ndA,rfl,hNN,hnz2⟩
 refine ⟨Z,(kL2 Z Z Zt),?_⟩
 refine TL.ownW 6 Z (fun a4 g4 c4 hv4 hc4 ha4=>?_)
 subst hv4
 refine xas Z (xas Z (dS (TC.seq (TC.nilA 7 (A:=ownA encE 5 80 (.slice none 0 0) #[]) (.inl ⟨Z,Z⟩) (TC.region (xf 4 zkI Z (xls 1 zwT Z Z (xz zgJ Z ?_))))))))
 refine xmi Z (dK (TC.loopK (X:=Nat×Nat×Array UInt64×Int×G×Array EdR×Value) [3,4,5,41,42] [0,1,4,5,6] (fun ⟨i,k,m,tg,g,d,v⟩=>[(43,.int .i64 ((i:Nat):Int))]) (fun ⟨i,k,m,tg,g,d,v⟩=>[(2,pt pb (.cells #[.int .i64 l.V,.int .i64 l.S,.int .i64 l.T,.pointer (some ⟨ab,0,none⟩),.int .i64 (tg),v] 57)),(3,zap ab mb 139 29 (m)),(7,ownA encE 5 80 v d)]) (fun ⟨i,k,m,tg,g,d,v⟩=>(i<=on/\k<=i)/\P19 l (fun x=>if dn=0 then 0 else fd (x.toNat % dn)) k m tg g d) (fun ⟨i,k,m,tg,g,d,v⟩=>on - i) ((0,0,_,0,_,_,_)) ⟨⟨Nat.zero_le _,Nat.zero_le _⟩,h0⟩ ⟨Z,Zt⟩ ⟨Z,Z,Z,Zt⟩ (fun z hI=>?_)))
 obtain ⟨i,k,m,tg,g,d,v⟩:=z
 obtain ⟨⟨hi,hki⟩,hP⟩:=hI
 replace hi:i<=on:=hi
 replace hki:k<=i:=hki
 replace hP:P19 l _ k m tg g d:=hP
 have hdz:d.size<=100:=by have:=(hP.r14 hl).size hl; omega
 refine TC.sub (env':=[(43,_),(3,_),(4,_),(5,_),(41,_),(42,_)]) (L':=[(2,_),(3,_),(7,_),(0,_),(1,_),(4,_),(5,_),(6,_)]) ⟨Z,Z,Z,Z,Z,Z,Zt⟩ ⟨Z,Z,Z,Z,Z,Z,Z,Z,Zt⟩ (sA (TL.lss Z Z Z Z (fun q1=>?_) (fun q1=>?_)))
 refine dS (TC.condT Z (TC.skip (TQ.then (TC.seq (TC.block (sA (TL.iaO Z hoa Z zgJ (by omega) Z Z (TL.ldRx 0 [_,_,_] Z Z hAo (by omega) Z zl4 Z Z ?_))))))))
 refine TL.alloc 10 (cs:=#[.int .i64 0,.int .i64 0,.int .i64 0]) zAu Z Z Z (fun _=>Zt) (fun bk10=>(TL.stW 10 3 [_,_,_] Z Z Z Z Z Z zl4 Z Z Zt (TL.done (TQ.then (TC.join (X:=Nat×Nat) [3,4,5,7,41,42,43] [0,1,2,3,4,5,6,7,10] (fun ⟨x8,x9⟩=>[(8,.pointer (some ⟨x8,0,none⟩)),(9,.pointer (some ⟨x9,0,none⟩))]) (fun ⟨x8,x9⟩=>[(8,pt x8 (.cells #[.int .i64 (min (fo i).u (fo i).v)] 3)),(9,pt x9 (.cells #[.int .i64 (max (fo i).u (fo i).v)] 3))]) (fun ⟨x8,x9⟩=>True) ?_ (fun z hI=>?_))))))
 refine TC.drawT (.br [(0,true),(1,true),(2,true),(3,true),(4,true),(5,true),(6,true),(7,true),(8,true),(9,true)] 10 11 (.fin [(11,false),(12,false),(13,false)]) (.fin [(10,false),(12,false),(13,false)])) [10] fc_m (by kernel_rfl) (TT.br (xf 1 zaU Z (xli 10 zaa Z Z (xf 2 zaT Z (xli 10 zaa Z Z (TL.min2 Z Z Z Z (xf 1 zaU Z (xli 10 zaa Z Z (xf 2 zaT Z ?_)))))))))
 refine xli 10 zaa Z Z (TL.max2 Z Z Z Z (TL.both ?_ ?_))
 refine TL.alloc 8 (cs:=#[.int .i64 0]) zeV Z Z Z (fun _=>(kL1 Z Zt)) (fun bk8=>(TL.tree (TT.fin (TL.alloc 9 (cs:=#[.int .i64 0]) zeV Z Z Z (fun _=>(kL1 Z Zt)) (fun bk9=>(TL.st 8 #[_] (.int _ _) Z Z Z Z Z Z zaa Z Z (kL1 Z Zt) (TL.st 9 #[_] (.int _ _) Z Z Z Z Z Z zaa Z Z (kL1 Z Zt) (TL.done (TQ.roundK ((_,_)) ⟨Zt,Nat.zero_lt_one⟩ ⟨Z,Z,Zt⟩ ⟨Z,Z,Zt⟩ (kE7 Z Z Z Z Z Z Z Zt) (kL8 Z Z Z Z Z Z Z Z (kL1 Z Zt)))))))))))
 refine TL.alloc 9 (cs:=#[.int .i64 0]) zeV Z Z Z (fun _=>(kL1 Z Zt)) (fun bk9=>(TL.tree (TT.fin (TL.alloc 8 (cs:=#[.int .i64 0]) zeV Z Z Z (fun _=>(kL1 Z Zt)) (fun bk8=>(TL.st 8 #[_] (.int _ _) Z Z Z Z Z Z zaa Z Z (kL1 Z Zt) (TL.st 9 #[_] (.int _ _) Z Z Z Z Z Z zaa Z Z (kL1 Z Zt) (TL.done (TQ.roundK ((_,_)) ⟨Zt,Nat.zero_lt_one⟩ ⟨Z,Z,Zt⟩ ⟨Z,Z,Zt⟩ (kE7 Z Z Z Z Z Z Z Zt) (kL8 Z Z Z Z Z Z Z Z (kL1 Z Zt)))))))))))
 obtain ⟨x8,x9⟩:=z
 refine TC.sub (env':=[(8,_),(9,_),(3,_),(4,_),(5,_),(7,_),(41,_),(42,_),(43,_)]) (L':=[(8,_),(9,_),(0,_),(1,_),(2,_),(3,_),(4,_),(5,_),(6,_),(7,_),(10,_)]) ⟨Z,Z,Z,Z,Z,Z,Z,Z,Z,Zt⟩ ⟨Z,Z,Z,Z,Z,Z,Z,Z,Z,Z,Z,Zt⟩ (TC.seq (TC.ownW 7 Z (fun a9 g9 c9 hv9 hc9 ha9=>?_)))
 subst hv9
 refine TC.region (TL.bs0 11 encE zaW Z Z (fun bk11=>⟨Zt,?_⟩))
 refine xlp 4 zfU Z Z (xN0 Z (xf 5 zbU Z (xls 2 zel Z Z (TL.appQ 11 7 (d2:=d) Z (Z) Z (ha9) Z Z (zas ha9) zgi (by decide) zdu (by simp; omega) Z Z (fun v12=>⟨Zt,?_⟩)))))
 rw [Array.empty_append]
 refine TL.ownW 11 Z (fun a8 g8 c8 hv8 hc8 ha8=>?_)
 subst hv8
 refine TL.alloc 13 (cs:=#[.slice none 0 0]) zAw Z Z Z (fun _=>Zt) (fun bk13=>(TL.st 13 #[_] _ Z Z Z Z Z Z zel Z Z Zt (dA (xlp 4 zfU Z Z (xL3 10 zl4 Z Z (TL.call [2,3,7] [2,3,7,14,15,16] (zsg hl hP (by omega)) ⟨Z,Z,Zt⟩ ⟨Z,Z,Z,Zt⟩ zAO Z Z Z Z ?_))))))
 rintro x Bs ⟨P,xa,xc,ya,yc,va,v2,ok,m2,d2,D1,rfl,rfl,hP2⟩
 refine ⟨Z,Zt,?_⟩
 refine xmu Z (TL.ext (.agg _) Z Z Z Z (xev Z Z (TL.ext (.bool _) Z Z Z Z (TL.alloc 17 (cs:=#[.slice none 0 0,.int .i64 0,.bool false,.slice none 0 0]) zb3 Z Z Z (fun _=>Zt) (fun bk17=>(TL.stW 17 4 [_,_,_,_] Z Z Z Z Z Z zat Z Z Zt (xav Z (xab Z (dB ?_)))))))))
 refine xmb rfl (TL.cases rfl (fun q2=>?_) (fun q2=>?_))
 refine xnt Z (TL.done (TQ.then (TC.condF Z (TC.skip (TQ.then (TC.seq ?_))))))
 obtain rfl:ok=true:=by assumption
 rcases hP2 with ⟨h9,_⟩ | ⟨_,u,v,s,g2,rfl,rfl,hC,hmn,hmx⟩
 ·cases h9
 obtain ⟨hgood,hne,hnx⟩:=hC.next hl hP hT (by omega)
 have hwsz:=hC.wsz
 have hmz:((zaN l m u v).size:Int)=l.cells:=by obtain ⟨_,_,_,hH,_⟩:=hC.ex; exact hH.calm.rt.size
 have hdz2:d2.size<=100:=by have:=(hC.ends hl hP hT (by omega)).size hl; omega
 refine TC.ownW 14 Z (fun a11 g11 c11 hv11 hc11 ha11=>?_)
 cases hv11
 refine TC.rowS 16 Z (fun a12 b12 o12 c12 hv12 hc12 ha12=>?_)
 subst hv12
 refine TC.region (TL.mf (xs:=[]) (ys:=[_,_,_]) [] [_,_,_] Zt ⟨Z,Z,Z,Zt⟩ Z Z (TL.alloc 18 (cs:=#[.nilFunc]) zAt Z Z Z (fun _=>Zt) (fun bk18=>(TL.st 18 #[_] _ Z Z Z Z Z Z zkE Z Z Zt (dA (TL.mf (xs:=[]) (ys:=[_,_,_]) [] [_,_,_] Zt ⟨Z,Z,Z,Zt⟩ Z Z (xav Z (dA (xlp 4 zfU Z Z ?_)))))))))
 refine xN0 Z (xf 3 zbK Z (xlp 2 zdl Z Z (TL.openE 3 Z (fun n9=>⟨Zt,?_⟩))))
 refine TL.call [3] [3,19] (zhA (by omega) (by omega)) ⟨Z,Zt⟩ ⟨Z,Zt⟩ zpV Z Z Z Z ?_
 rintro v Bs ⟨ab2,mb2,rfl,rfl⟩
 refine ⟨Z,Zt,?_⟩
 refine TL.conseq 3 (B:=zap ab mb 139 29 ((zaN l m u v))) Z (fun h hh=>zdF hh) Zt (TL.conseq 19 (B:=zap ab2 mb2 139 29 ((zaN l m u v))) Z (fun h hh=>zdF hh) Zt (xap Z (dB (xf 0 zbg Z (xls 17 zco Z Z (xz zal Z (xmi Z (dK ?_))))))))
 refine TC.loopK (X:=Nat) [3,4,5,11,12,14,15,16,41,42,43,80,81] [0,1,2,3,4,5,6,7,8,9,10,11,13,14,15,16,17,18,19] (fun n=>[(82,.int .i64 ((n:Nat):Int))]) (fun n=>[]) (fun n=>n<=P.work.size) (fun n=>P.work.size - n) (0) (Nat.zero_le _) ⟨Z,Zt⟩ Zt (fun n hI=>?_)
 refine TC.sub (env':=[(82,_),(3,_),(4,_),(5,_),(11,_),(12,_),(14,_),(15,_),(16,_),(41,_),(42,_),(43,_),(80,_),(81,_)]) (L':=[(0,_),(1,_),(2,_),(3,_),(4,_),(5,_),(6,_),(7,_),(8,_),(9,_),(10,_),(11,_),(13,_),(14,_),(15,_),(16,_),(17,_),(18,_),(19,_)]) ⟨Z,Z,Z,Z,Z,Z,Z,Z,Z,Z,Z,Z,Z,Z,Zt⟩ ⟨Z,Z,Z,Z,Z,Z,Z,Z,Z,Z,Z,Z,Z,Z,Z,Z,Z,Z,Z,Zt⟩ (sA (TL.lss Z Z Z Z (fun q3=>?_) (fun q3=>?_)))
 refine dS (TC.condT Z (TC.skip (TQ.then (TC.seq (TC.block (sA (TL.iaO Z ha11 Z zal (by omega) Z Z (TL.ldRx 14 [_,_,_] Z Z (zas ha11) (by omega) Z zbR Z Z ?_))))))))
 refine TL.alloc 20 (cs:=#[.bool false,.int .i64 0,.int .u64 0]) zek Z Z Z (fun _=>Zt) (fun bk20=>(TL.stW 20 3 [_,_,_] Z Z Z Z Z Z zbR Z Z Zt (dB (xf 0 zdx Z (xlb 20 zem Z Z (TL.not _ _ Z Z Z Z (TL.done (TQ.then (TC.cond Z (fun q4=>?_) (fun q4=>?_))))))))))
 refine TC.exit (TQ.thenExit (TQ.blockHere (TQ.then (TC.region (TL.add (((n+1:Nat):Int)) Z Z (wrN (by omega)) Z Z (xmi Z (TL.done (TQ.roundK (n+1) ⟨by omega,by omega⟩ ⟨Z,Zt⟩ Zt (kE8 Z Z Z Z Z Z Z Z (kE5 Z Z Z Z Z Zt)) (kL8 Z Z Z Z Z Z Z Z (kL8 Z Z Z Z Z Z Z Z (kL3 Z Z Z Zt)))))))))))
 refine TC.skip (TQ.then (TC.seq (TC.seq ?_)))
 have hfn:=hC.fine hl hP hT (by omega) hNI hnz hNN hnz2 (i:=n) (by omega) hmn hmx
 have hce:=hC.cels n (by omega)
 obtain ⟨j,hj⟩:=Int.eq_ofNat_of_zero_le hce.1
 refine TC.region (xf 1 zbt Z (xli 20 zaa Z Z (TL.lssF Z Z (by omega) Z Z (xmf Z (xf 1 zbt Z (xli 20 zaa Z Z (xms Z (xz zbx Z ?_))))))))
 refine TL.geqF Z Z (by omega) Z Z (xpF Z (TL.done (TQ.then (TC.condF Z (TC.skip (TQ.then (TC.seq ?_)))))))
 rw [hj,Int.toNat_natCast] at hfn
 rw [hj] at hce
 rw [hj]
 refine TC.region (xms Z (xf 1 zbt Z (xli 20 zaa Z Z (TL.iaO Z ha5 Z zbx (by omega) Z Z (TL.ldRx 5 [_,_,_,_] Z Z (zas ha5) (by omega) Z ziR Z Z (TL.alloc 21 (cs:=#[.int .i64 0,.int .i64 0,.int .i64 0,.int .i64 0]) zci Z Z Z (fun _=>Zt) (fun bk21=>(TL.stW 21 4 [_,_,_,_] Z Z Z Z Z Z ziR Z Z Zt (dS ?_)))))))))
 obtain ⟨nn,hnn⟩:∃ nn,nn=nmA[j]!:=⟨_,rfl⟩
 rw [<-hnn] at hfn ⊢
 refine TC.region (xaf Z (dB (xf 0 zkG Z (xli 21 zaa Z Z (dK (sA (TL.eql Z Z Z Z (fun q5=>?_) (fun q5=>?_))))))))
 refine xat Z (TL.done (TQ.then (TC.condT Z (TC.region (xf 1 zcJ Z (xli 21 zaa Z Z (TL.eqlT Z Z (hfn.k1 (by assumption)) Z Z (xat Z ?_))))))))
 refine TL.done (TQ.inBlock (TQ.then (sA (xmt Z (xnt Z (TL.done (TQ.then (TC.condF Z ?_))))))))
 refine TC.skip (TQ.inBlock (TQ.then (TC.region (TL.add (((n+1:Nat):Int)) Z Z (wrN (by omega)) Z Z (xmi Z (TL.done (TQ.roundK (n+1) ⟨by omega,by omega⟩ ⟨Z,Zt⟩ Zt (kE8 Z Z Z Z Z Z Z Z (kE5 Z Z Z Z Z Zt)) (kL8 Z Z Z Z Z Z Z Z (kL8 Z Z Z Z Z Z Z Z (kL3 Z Z Z Zt))))))))))
 refine xaf Z (TL.done (TQ.then (TC.condF Z (sB (TL.eql Z Z Z Z (fun q6=>?_) (fun q6=>?_))))))
 refine xat Z (TL.done (TQ.then (TC.condT Z (TC.skip (TQ.then (TC.condT Z (TC.region (xmv Z ?_))))))))
 refine xf 1 zcJ Z (xli 21 zaa Z Z (TL.callCF (c1:=[]) (c2:=[_,_,_]) (vs:=[_]) [2,7,4,13,8,9,11,18] [2,7,4,13,8,9,11,18] Z (zi9 hl hdz hdz2 (hfn.k4 (by omega))) ⟨Z,Zt⟩ ⟨Z,Z,Z,Z,Z,Z,Z,Z,Zt⟩ znf Z Z Z Z ?_))
 rintro r9 Bs ⟨rfl,rfl⟩
 refine ⟨Z,Zt,?_⟩
 refine xat Z (TL.done (TQ.inBlock (TQ.then (sA (xmt Z (xnt Z (TL.done (TQ.then ?_))))))))
 refine TC.condF Z (TC.skip (TQ.inBlock (TQ.then (TC.region (TL.add (((n+1:Nat):Int)) Z Z (wrN (by omega)) Z Z (xmi Z (TL.done (TQ.roundK (n+1) ⟨by omega,by omega⟩ ⟨Z,Zt⟩ Zt (kE8 Z Z Z Z Z Z Z Z (kE5 Z Z Z Z Z Zt)) (kL8 Z Z Z Z Z Z Z Z (kL8 Z Z Z Z Z Z Z Z (kL3 Z Z Z Zt)))))))))))
 refine xaf Z (TL.done (TQ.then (TC.condF Z (sA (TL.eql Z Z Z Z (fun q7=>?_) (fun q7=>?_))))))
 refine xat Z (TL.done (TQ.then (TC.condT Z (TC.skip (TQ.then (TC.condT Z (TC.region (xmv Z ?_))))))))
 refine xf 1 zcJ Z (xli 21 zaa Z Z (TL.callCF (c1:=[]) (c2:=[_,_,_]) (vs:=[_]) [2,7,4,13,8,9,11,18] [2,7,4,13,8,9,11,18] Z (zi9 hl hdz hdz2 (hfn.k4 (by omega))) ⟨Z,Zt⟩ ⟨Z,Z,Z,Z,Z,Z,Z,Z,Zt⟩ znf Z Z Z Z ?_))
 rintro r9 Bs ⟨rfl,rfl⟩
 refine ⟨Z,Zt,?_⟩
 refine xat Z (TL.done (TQ.inBlock (TQ.then (sA (xmt Z (xnt Z (TL.done (TQ.then ?_))))))))
 refine TC.condF Z (TC.skip (TQ.inBlock (TQ.then (TC.region (TL.add (((n+1:Nat):Int)) Z Z (wrN (by omega)) Z Z (xmi Z (TL.done (TQ.roundK (n+1) ⟨by omega,by omega⟩ ⟨Z,Zt⟩ Zt (kE8 Z Z Z Z Z Z Z Z (kE5 Z Z Z Z Z Zt)) (kL8 Z Z Z Z Z Z Z Z (kL8 Z Z Z Z Z Z Z Z (kL3 Z Z Z Zt)))))))))))
 refine xaf Z (TL.done (TQ.then (TC.condF Z (sA (TL.eql Z Z Z Z (fun q8=>?_) (fun q8=>?_))))))
 refine xat Z (TL.done (TQ.then (TC.condT Z (TC.skip (TQ.then (TC.condT Z (TC.region (xmv Z ?_))))))))
 refine xf 1 zcJ Z (xli 21 zaa Z Z (TL.callCF (c1:=[]) (c2:=[_,_,_]) (vs:=[_]) [2,7,4,13,8,9,11,18] [2,7,4,13,8,9,11,18] Z (zi9 hl hdz hdz2 (hfn.k4 (by omega))) ⟨Z,Zt⟩ ⟨Z,Z,Z,Z,Z,Z,Z,Z,Zt⟩ znf Z Z Z Z ?_))
 rintro r9 Bs ⟨rfl,rfl⟩
 refine ⟨Z,Zt,?_⟩
 refine xat Z (TL.done (TQ.inBlock (TQ.then (sA (xmt Z (xnt Z (TL.done (TQ.then ?_))))))))
 refine TC.condF Z (TC.skip (TQ.inBlock (TQ.then (TC.region (TL.add (((n+1:Nat):Int)) Z Z (wrN (by omega)) Z Z (xmi Z (TL.done (TQ.roundK (n+1) ⟨by omega,by omega⟩ ⟨Z,Zt⟩ Zt (kE8 Z Z Z Z Z Z Z Z (kE5 Z Z Z Z Z Zt)) (kL8 Z Z Z Z Z Z Z Z (kL8 Z Z Z Z Z Z Z Z (kL3 Z Z Z Zt)))))))))))
 refine xaf Z (TL.done (TQ.then (TC.condF Z (TC.region (TL.eql Z Z Z Z (fun q9=>?_) (fun q9=>?_))))))
 refine xat Z (TL.done (TQ.then (TC.condT Z (TC.region (xmv Z (xf 1 zcJ Z (xli 21 zaa Z Z (TL.callCF (c1:=[]) (c2:=[_,_,_]) (vs:=[_]) [2,7,4,13,8,9,11,18] [2,7,4,13,8,9,11,18] Z (zi9 hl hdz hdz2 (hfn.k4 (by omega))) ⟨Z,Zt⟩ ⟨Z,Z,Z,Z,Z,Z,Z,Z,Zt⟩ znf Z Z Z Z ?_))))))))
 rintro r9 Bs ⟨rfl,rfl⟩
 refine ⟨Z,Zt,?_⟩
 refine xat Z (TL.done (TQ.inBlock (TQ.then (sA (xmt Z (xnt Z (TL.done (TQ.then ?_))))))))
 refine TC.condF Z (TC.skip (TQ.inBlock (TQ.then (TC.region (TL.add (((n+1:Nat):Int)) Z Z (wrN (by omega)) Z Z (xmi Z (TL.done (TQ.roundK (n+1) ⟨by omega,by omega⟩ ⟨Z,Zt⟩ Zt (kE8 Z Z Z Z Z Z Z Z (kE5 Z Z Z Z Z Zt)) (kL8 Z Z Z Z Z Z Z Z (kL8 Z Z Z Z Z Z Z Z (kL3 Z Z Z Zt)))))))))))
 refine xaf Z (TL.done (TQ.then (TC.condF Z (sA (TL.eql Z Z Z Z (fun q10=>?_) (fun q10=>?_))))))
 refine xat Z (TL.done (TQ.then (TC.condT Z (TC.region (xlv 18 zkE Z Z (xf 1 zcJ Z (xli 21 zaa Z Z (TL.callCF (c1:=[]) (c2:=[_,_,_]) (vs:=[_]) [13,8,9,11] [13,8,9,11] Z (zjo hdz) ⟨Z,Zt⟩ ⟨Z,Z,Z,Z,Zt⟩ zng Z Z Z Z ?_))))))))
 rintro r9 Bs ⟨rfl,rfl⟩
 refine ⟨Z,Zt,?_⟩
 rw [zmR (hfn.k8 (by assumption))]
 refine xat Z (TL.done (TQ.inBlock (TQ.then (sA (xmt Z (xnt Z (TL.done (TQ.then ?_))))))))
 refine TC.condF Z (TC.skip (TQ.inBlock (TQ.then (TC.region (TL.add (((n+1:Nat):Int)) Z Z (wrN (by omega)) Z Z (xmi Z (TL.done (TQ.roundK (n+1) ⟨by omega,by omega⟩ ⟨Z,Zt⟩ Zt (kE8 Z Z Z Z Z Z Z Z (kE5 Z Z Z Z Z Zt)) (kL8 Z Z Z Z Z Z Z Z (kL8 Z Z Z Z Z Z Z Z (kL3 Z Z Z Zt)))))))))))
 refine xaf Z (TL.done (TQ.then (TC.condF Z (sA (TL.eql Z Z Z Z (fun q11=>?_) (fun q11=>?_))))))
 refine xat Z (TL.done (TQ.then (TC.condT Z (TC.region (xlv 18 zkE Z Z (xf 1 zcJ Z (xli 21 zaa Z Z (TL.callCF (c1:=[]) (c2:=[_,_,_]) (vs:=[_]) [13,8,9,11] [13,8,9,11] Z (zjo hdz) ⟨Z,Zt⟩ ⟨Z,Z,Z,Z,Zt⟩ zng Z Z Z Z ?_))))))))
 rintro r9 Bs ⟨rfl,rfl⟩
 refine ⟨Z,Zt,?_⟩
 rw [zmR ((hfn.k9 (by assumption)).1)]
 refine xmt Z (xlv 18 zkE Z Z (xf 2 zkF Z (xli 21 zaa Z Z (TL.callCF (c1:=[]) (c2:=[_,_,_]) (vs:=[_]) [13,8,9,11] [13,8,9,11] Z (zjo hdz) ⟨Z,Zt⟩ ⟨Z,Z,Z,Z,Zt⟩ zng Z Z Z Z ?_))))
 rintro r9 Bs ⟨rfl,rfl⟩
 refine ⟨Z,Zt,?_⟩
 rw [zmR ((hfn.k9 (by assumption)).2)]
 refine xpT Z (xat Z (TL.done (TQ.inBlock (TQ.then (sA (xmt Z (xnt Z (TL.done ?_))))))))
 refine TQ.then (TC.condF Z (TC.skip (TQ.inBlock (TQ.then (TC.region (TL.add (((n+1:Nat):Int)) Z Z (wrN (by omega)) Z Z (xmi Z (TL.done ?_))))))))
 refine TQ.roundK (n+1) ⟨by omega,by omega⟩ ⟨Z,Zt⟩ Zt (kE8 Z Z Z Z Z Z Z Z (kE5 Z Z Z Z Z Zt)) (kL8 Z Z Z Z Z Z Z Z (kL8 Z Z Z Z Z Z Z Z (kL3 Z Z Z Zt)))
 refine xaf Z (TL.done (TQ.then (TC.condF Z (sA (TL.eql Z Z Z Z (fun q12=>?_) (fun q12=>?_))))))
 refine xat Z (dT Z (xms Z (xf 1 zcJ Z (xli 21 zaa Z Z (TL.sub ((((nn.a - 1).toNat:Nat):Int)) Z Z (by have:=(hfn.k10 (by assumption)).1; rw [show (((nn.a - 1).toNat:Nat):Int)=nn.a - 1 by omega]; exact wr64 (by omega)) Z Z (TL.iaO Z ha4 Z zbx (by have:=(hfn.k10 (by assumption)).1; omega) Z Z (TL.ldRx 6 [_,_,_,_] Z Z (zas ha4) (by have:=(hfn.k10 (by assumption)).1; omega) Z ziR Z Z (TL.alloc 22 (cs:=#[.int .i64 0,.int .i64 0,.int .i64 0,.int .i64 0]) zci Z Z Z (fun _=>Zt) (fun bk22=>?_)))))))))
 refine TL.stW 22 4 [_,_,_,_] Z Z Z Z Z Z ziR Z Z Zt (dA (xf 0 zkG Z (xli 22 zaa Z Z (TL.eql Z Z Z Z (fun q13=>?_) (fun q13=>?_)))))
 refine TL.done (TQ.then (TC.condT Z (TC.region (xlv 18 zkE Z Z (xf 2 zkF Z (xli 22 zaa Z Z (TL.callCF (c1:=[]) (c2:=[_,_,_]) (vs:=[_]) [13,8,9,11] [13,8,9,11] Z (zjo hdz) ⟨Z,Zt⟩ ⟨Z,Z,Z,Z,Zt⟩ zng Z Z Z Z ?_)))))))
 rintro r9 Bs ⟨rfl,rfl⟩
 refine ⟨Z,Zt,?_⟩
 rw [zmR ((hfn.k10 (by assumption)).2.1 (by assumption))]
 refine xat Z (TL.done (TQ.inBlock (TQ.then (sA (xmt Z (xnt Z (TL.done (TQ.then ?_))))))))
 refine TC.condF Z (TC.skip (TQ.inBlock (TQ.then (TC.region (TL.add (((n+1:Nat):Int)) Z Z (wrN (by omega)) Z Z (xmi Z (TL.done (TQ.roundK (n+1) ⟨by omega,by omega⟩ ⟨Z,Zt⟩ Zt (kE8 Z Z Z Z Z Z Z Z (kE5 Z Z Z Z Z Zt)) (kL8 Z Z Z Z Z Z Z Z (kL8 Z Z Z Z Z Z Z Z (kL3 Z Z Z Zt)))))))))))
 refine TL.done (TQ.then (TC.condF Z (TC.region (xmv Z (xf 1 zcJ Z (xli 22 zaa Z Z (TL.callCF (c1:=[]) (c2:=[_,_,_]) (vs:=[_]) [2,7,4,13,8,9,11,18] [2,7,4,13,8,9,11,18] Z (zi9 hl hdz hdz2 ((hfn.k10 (by assumption)).2.2 (by assumption))) ⟨Z,Zt⟩ ⟨Z,Z,Z,Z,Z,Z,Z,Z,Zt⟩ znf Z Z Z Z ?_)))))))
 rintro r9 Bs ⟨rfl,rfl⟩
 refine ⟨Z,Zt,?_⟩
 refine xat Z (TL.done (TQ.inBlock (TQ.then (sA (xmt Z (xnt Z (TL.done (TQ.then ?_))))))))
 refine TC.condF Z (TC.skip (TQ.inBlock (TQ.then (TC.region (TL.add (((n+1:Nat):Int)) Z Z (wrN (by omega)) Z Z (xmi Z (TL.done (TQ.roundK (n+1) ⟨by omega,by omega⟩ ⟨Z,Zt⟩ Zt (kE8 Z Z Z Z Z Z Z Z (kE5 Z Z Z Z Z Zt)) (kL8 Z Z Z Z Z Z Z Z (kL8 Z Z Z Z Z Z Z Z (kL3 Z Z Z Zt)))))))))))
 refine xaf Z (TL.done (TQ.then (TC.condF Z (TC.skip (TQ.inBlock (TQ.then (sA (xmf Z ?_))))))))
 refine xnf Z (TL.done (TQ.then (TC.condT Z (TC.seq ?_))))
 exact absurd (by have:=hfn.ks; omega:False) id
 refine dS (TC.condF Z (TC.exit (TQ.thenExit (TQ.thenExit (TQ.blockHere (TQ.then (sB (xmp Z ?_))))))))
 refine TL.nilP false Z Z zwW Z Z Z (xmf Z (xmp Z (xlp 4 zfU Z Z (xN0 Z (xf 3 zbK Z (xlp 2 zdl Z Z (TL.openE 19 Z (fun n8=>⟨Zt,?_⟩))))))))
 refine TL.openE 3 Z (fun n9=>⟨Zt,?_⟩)
 refine xD [19,3] (zrg (by omega)) zAN Z ?_
 rw [zyc]
 refine TL.conseq 3 (B:=zap ab mb 139 29 ((zaN l m u v))) Z (fun h hh=>zdF hh) Zt (xnt Z (xpF Z (xmf Z (xms Z (xz zah Z (TL.eqlF Z Z (by have:0<(zcG l m u v).size:=zuS; omega) Z Z (xpF Z (dF Z ?_))))))))
 refine xf 0 zbg Z (xls 17 zco Z Z (TL.call [14] [14,23,24] (zjn ha11 hC.wsz (zas ha11)) ⟨Z,Zt⟩ ⟨Z,Zt⟩ ztI Z Z Z Z ?_))
 rintro x Bs ⟨rb,v,rfl,rfl⟩
 refine ⟨Z,Zt,?_⟩
 rw [ziA]
 refine TL.ownW 24 Z (fun a6 g6 c6 hv6 hc6 ha6=>?_)
 cases hv6
 refine xap Z (dB (xmp Z (TL.nilP false Z Z ztd Z Z Z (TL.done (TQ.then (TC.condF Z (TC.skip (TQ.then ?_))))))))
 refine sB (xai Z (dK (TC.loopK (X:=Nat) [3,4,5,11,22,41,42,43] [0,1,2,4,5,6,7,8,9,10,11,13,14,15,16,17,18,19,24] (fun k9=>[(23,.int .i64 ((k9:Nat):Int))]) (fun k9=>[(23,pt rb (.cells #[.slice a6 P.work.size c6,.int .i64 (((k9:Nat):Int)),.bool (badA (zaN l m u v) P.work k9)] 145)),(3,zap ab mb 139 29 (runA (zaN l m u v) P.work (k9)))]) (fun k9=>k9<P.work.size) (fun k9=>P.work.size - k9) (0) (by omega) ⟨Z,Zt⟩ ⟨Z,Z,Zt⟩ (fun k9 hI=>?_))))
 have hk9:k9<P.work.size:=hI
 refine TC.sub (env':=[(23,_),(3,_),(4,_),(5,_),(11,_),(22,_),(41,_),(42,_),(43,_)]) (L':=[(23,_),(3,_),(0,_),(1,_),(2,_),(4,_),(5,_),(6,_),(7,_),(8,_),(9,_),(10,_),(11,_),(13,_),(14,_),(15,_),(16,_),(17,_),(18,_),(19,_),(24,_)]) ⟨Z,Z,Z,Z,Z,Z,Z,Z,Z,Zt⟩ ⟨Z,Z,Z,Z,Z,Z,Z,Z,Z,Z,Z,Z,Z,Z,Z,Z,Z,Z,Z,Z,Z,Zt⟩ (sB (xmp Z (xlp 4 zfU Z Z (xN0 Z (xf 3 zbK Z (xlp 2 zdl Z Z (xD [23,24,3] (znO hC.wsz hc6 ha6 hk9 hC.vals) ztB Z ?_)))))))
 rw [show (badA (zaN l m u v) P.work k9 || !accG P.work[k9]! (runA (zaN l m u v) P.work k9))=badA (zaN l m u v) P.work (k9+1) from Z,show acc1 P.work[k9]! (runA (zaN l m u v) P.work k9)=runA (zaN l m u v) P.work (k9+1) from Z]
 refine TL.casesP Z (fun q4=>?_) (fun q4=>?_)
 refine xnt Z (xmf Z (xo Z (xo Z (xo Z (xo Z (xo Z (xpF Z (dE Z ?_))))))))
 refine TC.seq (TC.seq ?_)
 have hk2:k9+1=P.work.size:=by assumption
 refine TC.region (xmp Z (xD [23] zf7 zkM Z ?_))
 rw [decide_eq_true (show ((k9+1:Nat):Int)=(P.work.size:Int) by omega)]
 refine xnt Z (xmf Z (xmp Z (xD [23] zld ztt Z ?_)))
 rw [show (!badA (zaN l m u v) P.work (k9+1))=true by rw [zoL hgood (show k9+1<=P.work.size by omega)]; rfl]
 refine xnt Z (xpF Z (TL.done (TQ.then (TC.condF Z (TC.skip (TQ.then ?_))))))
 rw [hk2,zlb]
 refine TC.rowS 15 Z (fun a7 b7 o7 c7 hv7 hc7 ha7=>?_)
 cases hv7
 refine TC.region (xlp 4 zfU Z Z (xL4 17 zat Z Z (xD [2,3,15] (zvT hl ha7 zdp (by have:=(hC.roots hl hP hT (by omega)).2; omega) (by have:=hP.tg; omega)) zAM Z (dI (TL.add (((i+1:Nat):Int)) Z Z (wrN (by omega)) Z Z (xmi Z (TL.done (TQ.roundK ((i+1,k+1,_,_,g2,d2,_)) ⟨⟨⟨(show i+1<=on by omega),(show k+1<=i+1 by omega)⟩,hnx⟩,(show on - (i+1)<on - i by omega)⟩ ⟨Z,Zt⟩ ⟨Z,Z,Z,Zt⟩ (kE5 Z Z Z Z Z Zt) (kL5 Z Z Z Z Z Zt)))))))))
 refine xnf Z (xmt Z (xmi Z (xf 0 zbg Z (xls 17 zco Z Z (xz zal Z (TL.leqT Z Z (by omega) Z Z (xpT Z (TL.done ?_))))))))
 refine TQ.then (TC.condT Z (TC.skip (TQ.then (TC.seq (TC.block (TC.skip (TQ.inBlock (TQ.then ?_))))))))
 refine TC.region (xmi Z (TL.add (((k9+1:Nat):Int)) Z Z (wrN (by omega)) Z Z (xai Z (TL.done (TQ.roundK (k9+1) ⟨(show k9+1<P.work.size by omega),(show P.work.size - (k9+1)<P.work.size - k9 by omega)⟩ ⟨Z,Zt⟩ ⟨Z,Z,Zt⟩ (kE8 Z Z Z Z Z Z Z Z Zt) (kL8 Z Z Z Z Z Z Z Z (kL8 Z Z Z Z Z Z Z Z (kL3 Z Z Z Zt))))))))
 refine xnf Z (TL.done (TQ.then (TC.condT Z (TC.exit (TQ.thenExit (TQ.blockHere (TQ.then (TC.region ?_))))))))
 refine TL.add (((i+1:Nat):Int)) rfl rfl (wrN (by omega)) rfl rfl (xmi rfl (TL.done (TQ.roundK ((i+1,k,m2,tg,g,d2,_)) (by obtain ⟨e1,e2⟩:m2=m/\d2=d:=(by rcases hP2 with ⟨_,e1,e2⟩ | ⟨h9,_⟩; (· exact ⟨e1,e2⟩); (· exact absurd (h9.symm.trans (by assumption:ok=false)) (by decide))); subst e1 e2; exact ⟨⟨⟨(show i+1<=on by omega),(show k<=i+1 by omega)⟩,hP⟩,(show on - (i+1)<on - i by omega)⟩) ⟨rfl,trivial⟩ ⟨rfl,rfl,rfl,trivial⟩ (kE5 rfl rfl rfl rfl rfl trivial) (kL5 rfl rfl rfl rfl rfl trivial))))
 refine dS (TC.condF Z (TC.exit (TQ.thenExit (TQ.thenExit (TQ.blockHere (TQ.then (sA (xD [] zkV zw7 Z ?_))))))))
 refine xat Z (dR ?_)
 refine FQ.ret1 (v:=(.bool true)) (Bs:=[_]) [0] Z Z Z ⟨Z,Zt⟩ ?_
 exact ⟨Z,Z⟩
end Go.Proofs.YtabjfnfglcghfaaGreat
