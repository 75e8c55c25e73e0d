import Derived.Test.YtjnpjkfliochbaaGreatConB
set_option linter.unusedVariables false
set_option linter.unusedSimpArgs false
set_option maxRecDepth 20000
namespace Go.Proofs.YtjnpjkfliochbaaGreat
open Go.Eng Go.Tm
theorem zoj {V S T:Int} {da ea na:Option Addr} {dn dc en ec nn nc:Nat} {Ad:Assn} {bd offd be offe bn offn:Nat} {fd:Nat→Int} {fe fn:Nat→Op2} (hda:0<dn→da=some ⟨bd,offd,none⟩) (hAd:zaM Ad encU 1 bd offd dn fd) (hfd:∀ i,i<dn→0≤fd i∧fd i<18446744073709551616) (hea:0<en→ea=some ⟨be,offe,none⟩) (hAe:zaM Ad zfQ 2 be offe en fe) (hec:en≤ec) (hna:0<nn→na=some ⟨bn,offn,none⟩) (hAn:zaM Ad zfQ 2 bn offn nn fn) (hnc:nn≤nc)  (hno:¬(okL V S T∧V≤8∧S≤12∧dn≤60∧en≤30∧1≤nn∧(nn:Int)≤T∧∀ i,i<nn→EndOk V (fn i))):FnD Tryz.prog 7 [.agg #[.int .i64 V,.int .i64 S,.int .i64 T,.slice da dn dc,.slice ea en ec,.slice na nn nc]] [Ad] (.bool true) [Ad]:=by
 refine Fn.enter (Tryz.func7) rfl rfl (fun w0 R=>?_)
 refine sA (xB 1 rfl (fun bk1=>(xaf rfl (dB (xL6 1 zib rfl rfl (TL.callD [0] [0] (zhc hda hAd hfd hea hAe hec hna hAn hnc) ⟨rfl,trivial⟩ ⟨rfl,trivial⟩ zp7 rfl rfl rfl rfl rfl trivial ?_))))))
 rw [decide_eq_false hno]
 refine xnf rfl (dT rfl (TL.callD [] [] zhu trivial trivial zp6 rfl rfl rfl rfl rfl trivial (xat rfl (dRR ?_))))
 refine FQ.ret1 (v:=(.bool true)) (Bs:=[_]) [0] rfl rfl rfl ⟨rfl,trivial⟩ ?_
 exact ⟨rfl,rfl⟩
set_option maxHeartbeats 4000000 in
theorem zok {l:Lay} (hl:l.Ok)  {da ea na:Option Addr} {dn dc en ec nn nc:Nat} {Ad:Assn} {bd offd be offe bn offn:Nat} {fd:Nat→Int} {fe fn:Nat→Op2} (hda:0<dn→da=some ⟨bd,offd,none⟩) (hAd:zaM Ad encU 1 bd offd dn fd) (hfd:∀ i,i<dn→0≤fd i∧fd i<18446744073709551616) (hea:0<en→ea=some ⟨be,offe,none⟩) (hAe:zaM Ad zfQ 2 be offe en fe) (hec:en≤ec) (hna:0<nn→na=some ⟨bn,offn,none⟩) (hAn:zaM Ad zfQ 2 bn offn nn fn) (hnc:nn≤nc)  (hok:(okL l.V l.S l.T∧(l.V:Int)≤8∧(l.S:Int)≤12∧dn≤60∧en≤30∧1≤nn∧(nn:Int)≤l.T∧∀ i,i<nn→EndOk l.V (fn i))):FnD Tryz.prog 7 [.agg #[.int .i64 l.V,.int .i64 l.S,.int .i64 l.T,.slice da dn dc,.slice ea en ec,.slice na nn nc]] [Ad] (.bool true) [Ad]:=by
 obtain ⟨hk1,hk2,hk3,hk4,hk5,hk6,hk7,hEn⟩:=hok
 have hok:(okL l.V l.S l.T∧(l.V:Int)≤8∧(l.S:Int)≤12∧dn≤60∧en≤30∧1≤nn∧(nn:Int)≤l.T∧∀ i,i<nn→EndOk l.V (fn i)):=⟨hk1,hk2,hk3,hk4,hk5,hk6,hk7,hEn⟩
 have hT:nn≤l.T:=by omega
 have hvt:=zaW hl
 have hnb:=zaC hl
 have hcb:=zdV hl
 have hlb:=zbR hl
 have hob:=zbA hl
 have hlk:=zhX hl
 have hhd:l.heads=l.T+1+l.S * 7:=rfl
 refine Fn.enter (Tryz.func7) rfl rfl (fun w0 R=>?_)
 refine sA (xB 1 rfl (fun bk1=>(xaf rfl (dB (xL6 1 zib rfl rfl (TL.callD [0] [0] (zhc hda hAd hfd hea hAe hec hna hAn hnc) ⟨rfl,trivial⟩ ⟨rfl,trivial⟩ zp7 rfl rfl rfl rfl rfl trivial ?_))))))
 rw [decide_eq_true hok]
 refine xnt rfl (dF rfl (xL6 1 zib rfl rfl (TL.call [0] [0,2,3,4,5,6] (zlD hl hda hAd hfd hea hAe hec hna hAn hnc (by omega) (by omega) (by omega)) ⟨rfl,trivial⟩ ⟨rfl,trivial⟩ zs7 rfl rfl rfl rfl ?_)))
 rintro x Bs ⟨pb,ab,mb,av,gv,bs,gos,σ,par,rt,g,rfl,rfl,hbs,hgo,hK,hlk0,hlkC⟩
 refine ⟨rfl,trivial,?_⟩
 have hG0:=GL.start hl hK hlk0 (n:=nn) (fe:=fn) hT hEn
 refine xap rfl (dS (TC.seq (TC.ownW 4 rfl (fun aA gA cA hvA hcA haA=>?_))))
 subst hvA
 rw [hbs] at haA hcA ⊢
 refine TC.region (xmp rfl (TL.nilP false rfl rfl zsO rfl rfl rfl (xmf rfl (xmp rfl (xN0 rfl (xf 14 zdv rfl (xlv 2 zkA rfl rfl (TL.iaO (i:=0) rfl haA rfl zes (by omega) rfl rfl ?_))))))))
 refine TL.ldRS 4 (.pointer (some ⟨bs[0]!,0,none⟩)) rfl rfl (zki hbs haA) (by omega) (rfl) zpM rfl rfl (TL.nilP false rfl rfl zpQ rfl rfl rfl (xpF rfl (dF rfl (xmp rfl (xN0 rfl (xf 3 zb6 rfl (xlp 2 ze5 rfl rfl ?_)))))))
 have hz7:=hK.size
 refine TL.call [3] [3,7] (zoq (by omega) (by omega)) ⟨rfl,trivial⟩ ⟨rfl,trivial⟩ zs5 rfl rfl rfl rfl ?_
 rintro v Bs ⟨ab2,mb2,rfl,rfl⟩
 refine ⟨rfl,trivial,?_⟩
 refine xap rfl (dA (xmp rfl (xN0 rfl (xf 14 zdv rfl (xlv 2 zkA rfl rfl (TL.iaO (i:=0) rfl haA rfl zes (by omega) rfl rfl (TL.ldRS 4 (.pointer (some ⟨bs[0]!,0,none⟩)) rfl rfl (zki hbs haA) (by omega) (rfl) zpM rfl rfl (xap rfl ?_))))))))
 refine dS (TC.seq (TC.bigO 6 8 0 rfl (by omega) (by decide) (TC.region (xmp rfl (TL.call [8] [8,9] (zf5 (by exact ⟨Nat.zero_le _,Nat.zero_le _⟩)) ⟨rfl,trivial⟩ ⟨rfl,trivial⟩ zng rfl rfl rfl rfl ?_)))))
 rintro x Bs ⟨_,rfl⟩
 refine ⟨rfl,trivial,?_⟩
 refine TL.rowS 9 rfl (fun a7 b7 o7 c7 hv7 hc7 ha7=>⟨trivial,?_⟩)
 cases hv7
 refine xz zah rfl (TL.neqF rfl rfl (fun h=>h rfl) rfl rfl (xmf rfl (xmp rfl (TL.call [8] [8,10] (zj8 (by exact ⟨Nat.zero_le _,Nat.zero_le _⟩)) ⟨rfl,trivial⟩ ⟨rfl,trivial⟩ zpZ rfl rfl rfl rfl ?_))))
 rintro x Bs ⟨_,rfl⟩
 refine ⟨rfl,trivial,?_⟩
 refine TL.rowS 10 rfl (fun a6 b6 o6 c6 hv6 hc6 ha6=>⟨trivial,?_⟩)
 cases hv6
 refine xz zah rfl (TL.neqF rfl rfl (fun h=>h rfl) rfl rfl (xpF rfl (TL.done (TQ.then (TC.condF rfl (TC.skip (TQ.then (TC.seq ?_))))))))
 refine TC.openE 3 rfl (fun n0=>?_)
 obtain ⟨hcm0,hph0⟩:=zj2 hl hK hG0 hk6 (n0:=n0)
 have hz0:=hK.size
 refine TC.region (xmp rfl (xN0 rfl (xf 3 zb6 rfl (xlp 2 ze5 rfl rfl (TL.callD [3] [3] zgZ ⟨rfl,trivial⟩ ⟨rfl,trivial⟩ zp4 rfl rfl rfl rfl rfl trivial (TL.alloc 11 (cs:=#[.int .i64 0,.int .i64 0,.int .i64 0,.int .i64 0,.int .i64 0]) zm3 rfl rfl rfl (fun _=>trivial) (fun bk11=>(TL.stW 11 5 [_,_,_,_,_] rfl rfl rfl rfl rfl rfl zd9 rfl rfl trivial (dB ?_)))))))))
 refine xai rfl (dK (TC.loopK (X:=Nat×TakeS×M×Cnt) [1,3,4,5,6] [0,1,2,4,5,6,7,9,10,11] (fun ⟨k,t,σ8,c8⟩=>[(7,.int .i64 ((k:Nat):Int))]) (fun ⟨k,t,σ8,c8⟩=>[(8,zb4 130 157 189 3 bs[0]! l (t)),(3,arenaC ab mb 140 71 (σ8) (c8))]) (fun ⟨k,t,σ8,c8⟩=>Cm l σ par rt (ts0 l fn 0) σ8 (t)∧Ph l σ par rt (ts0 l fn 0) n0 k (t) (c8)∧((t).at_=0→σ8=σ)∧(t).at_≠4) (fun ⟨k,t,σ8,c8⟩=>8 * l.nodes.toNat+13 - k) ((0,(ts0 l fn 0),σ,n0)) ⟨hcm0,hph0,fun _=>rfl,fun h=>absurd (show (0:Int)=4 from h) (by decide)⟩ ⟨rfl,trivial⟩ ⟨rfl,rfl,trivial⟩ (fun y hI=>?_)))
 obtain ⟨k,t,σ8,c8⟩:=y
 obtain ⟨hcm,hph,h0σ,h4n⟩:=hI
 replace hcm:Cm l σ par rt (ts0 l fn 0) σ8 t:=hcm
 replace hph:Ph l σ par rt (ts0 l fn 0) n0 k t c8:=hph
 replace h0σ:t.at_=0→σ8=σ:=h0σ
 replace h4n:t.at_≠4:=h4n
 refine TC.sub (env':=[(7,_),(1,_),(3,_),(4,_),(5,_),(6,_)]) (L':=[(8,_),(3,_),(0,_),(1,_),(2,_),(4,_),(5,_),(6,_),(7,_),(9,_),(10,_),(11,_)]) ⟨rfl,rfl,rfl,rfl,rfl,rfl,trivial⟩ ⟨rfl,rfl,rfl,rfl,rfl,rfl,rfl,rfl,rfl,rfl,rfl,rfl,trivial⟩ (sB (xmp rfl (xmp rfl (xN0 rfl (xf 3 zb6 rfl (xlp 2 ze5 rfl rfl ?_))))))
 obtain ⟨⟨t9,σ9⟩,e9⟩:∃ q,t.stp l σ8=q:=⟨_,rfl⟩
 obtain ⟨hc9,h09,hP9⟩:=Ph.step hl hlk0 hK.seen ⟨(by show (1:Int)≤1000; decide),rfl,rfl⟩ hcm (fun _ _=>trivial) hph h0σ h4n e9
 refine TL.callD [8,3] [8,3] (zhy hl (TInv.takeOk hl hcm.seen hcm.sz hcm.ti hcm.w)) ⟨rfl,rfl,trivial⟩ ⟨rfl,rfl,trivial⟩ znh rfl rfl rfl rfl rfl trivial ?_
 rw [e9]
 refine TL.cases rfl (fun q1=>?_) (fun q1=>?_)
 refine xnt rfl (dE rfl (TC.seq ?_))
 have h49:t9.at_=4:=of_decide_eq_true (by assumption)
 obtain ⟨N,hN,hcn⟩:=hP9.done h49
 rw [hcn]
 have hh4:=hc9.ti.held4 h49
 have hh42:=hh4.2.1
 have hh4p:0<t9.held.size:=by rw [hh4.2.2,zcv]; split<;>decide
 refine TC.region (xmp rfl (xN0 rfl (xf 3 zb6 rfl (xlp 2 ze5 rfl rfl (TL.callD [3] [3] zgZ ⟨rfl,trivial⟩ ⟨rfl,trivial⟩ zp4 rfl rfl rfl rfl rfl trivial (TL.alloc 12 (cs:=#[.int .i64 0,.int .i64 0,.int .i64 0,.int .i64 0,.int .i64 0]) zm3 rfl rfl rfl (fun _=>trivial) (fun bk12=>(TL.stW 12 5 [_,_,_,_,_] rfl rfl rfl rfl rfl rfl zd9 rfl rfl trivial (dA ?_)))))))))
 refine xmp rfl (TL.call [8] [8,13] (zf5 ⟨hc9.w,hh4.2.1⟩) ⟨rfl,trivial⟩ ⟨rfl,trivial⟩ zng rfl rfl rfl rfl ?_)
 rintro x Bs ⟨_,rfl⟩
 refine ⟨rfl,trivial,?_⟩
 rw [show t9.roots=t9.held from hh4.1]
 refine TL.rowS 13 rfl (fun a5 b5 o5 c5 hv5 hc5 ha5=>⟨trivial,?_⟩)
 cases hv5
 refine xas rfl (dB (xmp rfl (TL.callD [8] [8] zin ⟨rfl,trivial⟩ ⟨rfl,trivial⟩ zpY rfl rfl rfl rfl rfl trivial (TL.neqF rfl rfl (fun h=>h (by rw [hc9.tr]; rfl)) rfl rfl (xmf rfl (xf 2 zd4 rfl (xli 12 zaf rfl rfl (xf 2 zd4 rfl ?_))))))))
 refine xli 11 zaf rfl rfl (xms rfl (xz zah rfl (TL.add _ rfl rfl (rfl) rfl rfl (TL.neqF rfl rfl (fun h=>h (ztd hh4p)) rfl rfl (xpF rfl (xmf rfl (xf 3 zdh rfl (xli 12 zaf rfl rfl ?_))))))))
 refine xf 3 zdh rfl (xli 11 zaf rfl rfl (TL.neqF rfl rfl (fun h=>h rfl) rfl rfl (xpF rfl (xmf rfl (xf 1 zd5 rfl (xli 12 zaf rfl rfl (xf 1 zd5 rfl (xli 11 zaf rfl rfl ?_))))))))
 refine TL.neqF rfl rfl (fun h=>h rfl) rfl rfl (xpF rfl (xmf rfl (xf 0 zd6 rfl (xli 12 zaf rfl rfl (xf 0 zd6 rfl (xli 11 zaf rfl rfl (TL.sub _ rfl rfl (rfl) rfl rfl (TL.rem _ rfl rfl (by omega) (rfl) rfl rfl ?_))))))))
 refine TL.neqF rfl rfl (fun h=>h (by rw [zte (Nat.succ_pos N) (by omega)]; exact tmod2)) rfl rfl (xpF rfl (xmf rfl (xmp rfl (xmp rfl (xN0 rfl (xf 3 zb6 rfl (xlp 2 ze5 rfl rfl (TL.callD [8,3] [8,3] (zhy hl (TInv.takeOk hl hc9.seen hc9.sz hc9.ti hc9.w)) ⟨rfl,rfl,trivial⟩ ⟨rfl,rfl,trivial⟩ znh rfl rfl rfl rfl rfl trivial ?_))))))))
 rw [TInv.step4 hl h49,TakeS.cnt_4 (by omega),decide_eq_true h49]
 refine xnt rfl (xpF rfl (dF rfl (xf 0 zbb rfl (xL3 1 zaa rfl rfl (xms rfl (TL.call [13] [13,14] (zmP (l:=l) (d:=t9.held) ha5 hh4.2.1) ⟨rfl,rfl,trivial⟩ ⟨rfl,trivial⟩ zp5 rfl rfl rfl rfl ?_))))))
 rintro x Bs ⟨gb,rfl,rfl⟩
 refine ⟨rfl,trivial,?_⟩
 refine xap rfl (dB (xmp rfl (TL.nilP false rfl rfl zpP rfl rfl rfl (TL.done (TQ.then (TC.condF rfl (TC.skip (TQ.then ?_))))))))
 refine TC.seq (TC.seq (TC.conseq 3 (B:=zaA ab mb 140 71 (σ9)) rfl (fun h hh=>zkU hh) (TC.region (xms rfl (xz zah rfl (xmi rfl (dK (TC.loopK (X:=Nat) [3,4,10,129] [0,1,2,4,5,6,7,8,9,10,11,12,13] (fun i=>[(130,.int .i64 ((i:Nat):Int))]) (fun i=>[(14,zdG 138 gb l (gvD t9.held i)),(3,zaA ab mb 140 71 (gvM l σ9 t9.held i))]) (fun i=>i≤t9.held.size) (fun i=>t9.held.size - i) (0) (Nat.zero_le _) ⟨rfl,trivial⟩ ⟨rfl,rfl,trivial⟩ (fun i hI=>?_)))))))))
 refine TC.sub (env':=[(130,_),(3,_),(4,_),(10,_),(129,_)]) (L':=[(14,_),(3,_),(0,_),(1,_),(2,_),(4,_),(5,_),(6,_),(7,_),(8,_),(9,_),(10,_),(11,_),(12,_),(13,_)]) ⟨rfl,rfl,rfl,rfl,rfl,trivial⟩ ⟨rfl,rfl,rfl,rfl,rfl,rfl,rfl,rfl,rfl,rfl,rfl,rfl,rfl,rfl,rfl,trivial⟩ (sA (TL.lss rfl rfl rfl rfl (fun q2=>?_) (fun q2=>?_)))
 refine dS (TC.condT rfl (TC.skip (TQ.then (TC.seq (TC.block (sB (xmp rfl (TL.callD [14] [14] zgw ⟨rfl,trivial⟩ ⟨rfl,trivial⟩ zgK rfl rfl rfl rfl rfl trivial ?_))))))))
 rw [decide_eq_false (show ¬(gvD t9.held i).size=0 by rw [(ze1 i).1]; omega)]
 refine TL.done (TQ.then (TC.condF rfl (TC.skip (TQ.then (TC.region (xmp rfl (xmp rfl (xN0 rfl ?_))))))))
 refine xf 3 zb6 rfl (xlp 2 ze5 rfl rfl (TL.callD [14,3] [14,3] (zgu hl (by rw [(ze1 i).1]; have:=hh4.2.1; omega)) ⟨rfl,rfl,trivial⟩ ⟨rfl,rfl,trivial⟩ znf rfl rfl rfl rfl rfl trivial (dI (TL.add (((i+1:Nat):Int)) rfl rfl (wrN (by omega)) rfl rfl (xmi rfl (TL.done (TQ.roundK (i+1) ⟨(by omega),(by omega)⟩ ⟨rfl,trivial⟩ ⟨rfl,rfl,trivial⟩ (kE4 rfl rfl rfl rfl trivial) (kL8 rfl rfl rfl rfl rfl rfl rfl rfl (kL5 rfl rfl rfl rfl rfl trivial)))))))))
 refine dS (TC.condF rfl (TC.exit (TQ.thenExit (TQ.thenExit (TQ.blockHere (TQ.then (TC.seq ?_)))))))
 obtain rfl:i=t9.held.size:=by omega
 rw [zsu _ (Nat.le_refl _)]
 obtain ⟨he1,he2⟩:=zpq hl hc9 h49 hz0 hlk0
 refine TC.openE 3 rfl (fun n2=>(TC.openE 7 rfl (fun n1=>(TC.region (xmp rfl (TL.callD [14] [14] zgw ⟨rfl,trivial⟩ ⟨rfl,trivial⟩ zgK rfl rfl rfl rfl rfl trivial ?_))))))
 rw [decide_eq_true (show (gvD t9.held t9.held.size).size=0 by rw [(ze1 _).1]; omega)]
 refine xmt rfl (xmp rfl (TL.nilP true rfl rfl znb rfl rfl rfl (xpT rfl (xmt rfl (xmp rfl (xmp rfl (xN0 rfl (xf 3 zb6 rfl ?_))))))))
 refine xlp 2 ze5 rfl rfl (TL.callD [7,3] [7,3] (zlH (by omega)) ⟨rfl,rfl,trivial⟩ ⟨rfl,rfl,trivial⟩ zs1 rfl rfl rfl rfl rfl trivial ?_)
 rw [memEq he1 he2]
 refine xpT rfl (xmt rfl (TL.callD [] [] zhu trivial trivial zp6 rfl rfl rfl rfl rfl trivial (xpT rfl (xat rfl (dR ?_)))))
 refine FQ.ret1 (v:=(.bool true)) (Bs:=[_]) [0] rfl rfl rfl ⟨rfl,trivial⟩ ?_
 exact ⟨rfl,rfl⟩
 refine xnf rfl (TL.done (TQ.then (TC.condT rfl (TC.skip (TQ.then (TC.seq (TC.block (sA ?_))))))))
 refine xmi rfl (xf 0 zbb rfl (xL3 1 zaa rfl rfl (TL.callD [] [] (zcV hl) ⟨rfl,trivial⟩ trivial zfJ rfl rfl rfl rfl rfl trivial (TL.mul _ rfl rfl (wr64 (by omega)) rfl rfl (TL.add _ rfl rfl (wr64 (by omega)) rfl rfl (TL.gtrF rfl rfl (by have:=hP9.le hl hc9; omega) rfl rfl (TL.done (TQ.then ?_))))))))
 refine TC.condF rfl (TC.skip (TQ.inBlock (TQ.then ?_)))
 have hPle:=hP9.le hl hc9
 refine TC.region (xmi rfl (TL.add (((k+1:Nat):Int)) rfl rfl (wrN (by omega)) rfl rfl (xai rfl (TL.done (TQ.roundK ((k+1,t9,σ9,_)) ⟨⟨hc9,hP9,h09,of_decide_eq_false (by assumption)⟩,(show 8 * l.nodes.toNat+13 - (k+1)<8 * l.nodes.toNat+13 - k by have:=hP9.le hl hc9; omega)⟩ ⟨rfl,trivial⟩ ⟨rfl,rfl,trivial⟩ (kE5 rfl rfl rfl rfl rfl trivial) (kL8 rfl rfl rfl rfl rfl rfl rfl rfl (kL2 rfl rfl trivial)))))))
end Go.Proofs.YtjnpjkfliochbaaGreat
