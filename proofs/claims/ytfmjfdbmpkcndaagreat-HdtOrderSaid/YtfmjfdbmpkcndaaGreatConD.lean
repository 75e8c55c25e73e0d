import Derived.Test.YtfmjfdbmpkcndaaGreatConC
set_option linter.unusedVariables false
set_option linter.unusedSimpArgs false
set_option maxRecDepth 20000
namespace Go.Proofs.YtfmjfdbmpkcndaaGreat
open Go.Eng Go.Tm
theorem znV {V S T:Int} {da oa:Option Addr} {dn dc on oc:Nat} {turn:Int} (hno:¬(okL V S T∧V≤8∧S≤12∧dn≤60∧on≤40)):FnD Tryz.prog 13 [.agg #[.int .i64 V,.int .i64 S,.int .i64 T,.slice da dn dc,.slice oa on oc],.int .i64 turn] [] (.bool true) []:=by
 refine Fn.enter (Tryz.func13) rfl rfl (fun w0 R=>?_)
 refine sA (xB 0 rfl (fun bk0=>(xaf rfl (dB (xL5 0 zf6 rfl rfl (TL.callD [] [] zhd ⟨rfl,trivial⟩ trivial zo7 rfl rfl rfl rfl rfl trivial ?_))))))
 rw [decide_eq_false hno]
 refine xnf rfl (xmt rfl (xo rfl (xo rfl (xpT rfl (xmt rfl (xo rfl (xo rfl (xo rfl ?_))))))))
 refine xo rfl (xpT rfl (dT rfl (TL.callD [] [] zcT trivial trivial zho rfl rfl rfl rfl rfl trivial (xat rfl (dRR ?_)))))
 refine FQ.ret1 (v:=(.bool true)) (Bs:=[]) [] rfl rfl rfl trivial ?_
 exact ⟨rfl,rfl⟩
set_option maxHeartbeats 4000000 in
theorem znW {l:Lay} (hl:l.Ok) {da oa:Option Addr} {dn dc on oc:Nat} {Ad:Assn} {bd offd:Nat} {fd:Nat→Int} (hda:0<dn→da=some ⟨bd,offd,none⟩) (hAd:zaW Ad encU 1 bd offd dn fd) (hfd:∀ i,i<dn→0≤fd i∧fd i<18446744073709551616) {bo offo:Nat} {fo:Nat→Op3} (hoa:0<on→oa=some ⟨bo,offo,none⟩) (hAo:zaW Ad zqc 3 bo offo on fo) {turn:Int} (hok:(okL l.V l.S l.T∧(l.V:Int)≤8∧(l.S:Int)≤12∧dn≤60∧on≤40)):FnD Tryz.prog 13 [.agg #[.int .i64 l.V,.int .i64 l.S,.int .i64 l.T,.slice da dn dc,.slice oa on oc],.int .i64 turn] [Ad] (.bool true) [Ad]:=by
 obtain ⟨hk1,hk2,hk3,hk4,hk5⟩:=hok
 have hok:(okL l.V l.S l.T∧(l.V:Int)≤8∧(l.S:Int)≤12∧dn≤60∧on≤40):=⟨hk1,hk2,hk3,hk4,hk5⟩
 have hlb:=zaU hl
 refine Fn.enter (Tryz.func13) rfl rfl (fun w0 R=>?_)
 refine sA (xB 1 rfl (fun bk1=>(xaf rfl (dB (xL5 1 zf6 rfl rfl (TL.callD [] [] zhd ⟨rfl,trivial⟩ trivial zo7 rfl rfl rfl rfl rfl trivial ?_))))))
 rw [decide_eq_true hok]
 refine xnt rfl (xmf rfl (xmi rfl (TL.lss rfl rfl rfl rfl (fun q1=>?_) (fun q1=>?_))))
 refine xpH rfl (xmt rfl (xo rfl (xo rfl (xo rfl (xo rfl (xpT rfl (dT rfl (TL.callD [] [] zcT trivial trivial zho rfl rfl rfl rfl rfl trivial ?_))))))))
 refine xat rfl (dRR ?_)
 refine FQ.ret1 (v:=(.bool true)) (Bs:=[_]) [0] rfl rfl rfl ⟨rfl,trivial⟩ ?_
 exact ⟨rfl,rfl⟩
 refine xpF rfl (xmf rfl (xf 4 zcs rfl (xls 1 zgx rfl rfl (xz zbZ rfl (TL.eql rfl rfl rfl rfl (fun q2=>?_) (fun q2=>?_))))))
 refine xpH rfl (dT rfl (TL.callD [] [] zcT trivial trivial zho rfl rfl rfl rfl rfl trivial (xat rfl (dRR ?_))))
 refine FQ.ret1 (v:=(.bool true)) (Bs:=[_]) [0] rfl rfl rfl ⟨rfl,trivial⟩ ?_
 exact ⟨rfl,rfl⟩
 refine xpF rfl (TL.done (TQ.then (TC.condF rfl (TC.skip (TQ.then (TC.seq (TC.draw [(0,true),(2,true),(1,false),(3,false),(4,true),(5,true)] [1] fc_m (by kernel_rfl) (xL5 1 zf6 rfl rfl ?_))))))))
 refine xL5 1 zf6 rfl rfl (TL.call [0] [0,2,3,4] (zfL hl hda hAd hfd (by omega)) ⟨rfl,trivial⟩ ⟨rfl,trivial⟩ zmN rfl rfl rfl rfl ?_)
 rintro x Bs ⟨pb,ab,mb,rfl,rfl⟩
 refine ⟨rfl,(kL1 rfl trivial),?_⟩
 refine TL.call [0] [0,5,6,7] (zfL hl hda hAd hfd (by omega)) ⟨rfl,trivial⟩ ⟨rfl,trivial⟩ zmN rfl rfl rfl rfl ?_
 rintro x Bs ⟨pb2,ab2,mb2,rfl,rfl⟩
 refine ⟨rfl,(kL1 rfl trivial),?_⟩
 refine xap rfl (xap rfl (dB (xmp rfl (TL.nilP false rfl rfl zmI rfl rfl rfl (xmf rfl (xmp rfl (TL.nilP false rfl rfl zmI rfl rfl rfl (xpF rfl ?_))))))))
 refine dF rfl (xai rfl (xai rfl (dB (xf 4 zcs rfl (xls 1 zgx rfl rfl (xz zbZ rfl (xmi rfl (dK ?_))))))))
 refine TC.loopK (X:=Nat×(M×Value×Array EdR×G)×(M×Value×Array EdR×G)) [1,2,5,6,7,8,44] [0,1] (fun ⟨i,⟨σ,sv,d,g⟩,⟨τ,tv,e,h⟩⟩=>[(45,.int .i64 ((i:Nat):Int))]) (fun ⟨i,⟨σ,sv,d,g⟩,⟨τ,tv,e,h⟩⟩=>[(2,pt pb (.cells #[.int .i64 l.V,.int .i64 l.S,.int .i64 l.T,.pointer (some ⟨ab,0,none⟩),.int .i64 l.V,.int .i64 l.S,.int .i64 l.T,.iface 107 (.agg #[.pointer (some ⟨ab,0,none⟩)]),.int .i64 1,.int .i64 0,.int .i64 l.V,.int .i64 l.S,.int .i64 l.T,.iface 107 (.agg #[.pointer (some ⟨ab,0,none⟩)]),sv] 90)),(3,zaC ab mb 149 110 (σ)),(4,ownA encE 5 65 sv d),(5,pt pb2 (.cells #[.int .i64 l.V,.int .i64 l.S,.int .i64 l.T,.pointer (some ⟨ab2,0,none⟩),.int .i64 l.V,.int .i64 l.S,.int .i64 l.T,.iface 107 (.agg #[.pointer (some ⟨ab2,0,none⟩)]),.int .i64 1,.int .i64 0,.int .i64 l.V,.int .i64 l.S,.int .i64 l.T,.iface 107 (.agg #[.pointer (some ⟨ab2,0,none⟩)]),tv] 90)),(6,zaC ab2 mb2 149 110 (τ)),(7,ownA encE 5 65 tv e)]) (fun ⟨i,⟨σ,sv,d,g⟩,⟨τ,tv,e,h⟩⟩=>i≤on∧(R14 l (fun x=>if dn=0 then 0 else fd (x.toNat % dn)) σ g d∧CntI l g d∧SetI l fo (fun j=>j) d i)∧(R14 l (fun x=>if dn=0 then 0 else fd (x.toNat % dn)) τ h e∧CntI l h e∧SetI l fo (fun j=>(j+turn.toNat % on) % on) e i)) (fun ⟨i,⟨σ,sv,d,g⟩,⟨τ,tv,e,h⟩⟩=>on - i) ((0,(_,_,#[],G0),(_,_,#[],G0))) ⟨Nat.zero_le _,⟨R14.born hl hfd (by have:=zaO hl; have:=zaz hl; have:=zdn hl; omega),R14.cnt0 hl _ rfl,SetI.start⟩,⟨R14.born hl hfd (by have:=zaO hl; have:=zaz hl; have:=zdn hl; omega),R14.cnt0 hl _ rfl,SetI.start⟩⟩ ⟨rfl,trivial⟩ ⟨rfl,rfl,rfl,rfl,rfl,rfl,trivial⟩ (fun y hI=>?_)
 obtain ⟨i,⟨σ,sv,d,g⟩,⟨τ,tv,e,h⟩⟩:=y
 obtain ⟨hi,⟨hR,hC,hS⟩,⟨hR1,hC1,hS1⟩⟩:=hI
 replace hi:i≤on:=hi
 replace hR:R14 l (fun x=>if dn=0 then 0 else fd (x.toNat % dn)) σ g d:=hR
 replace hR1:R14 l (fun x=>if dn=0 then 0 else fd (x.toNat % dn)) τ h e:=hR1
 replace hC:CntI l g d:=hC
 replace hC1:CntI l h e:=hC1
 replace hS:SetI l fo (fun j=>j) d i:=hS
 replace hS1:SetI l fo (fun j=>(j+turn.toNat % on) % on) e i:=hS1
 refine TC.sub (env':=[(45,_),(1,_),(2,_),(5,_),(6,_),(7,_),(8,_),(44,_)]) (L':=[(2,_),(3,_),(4,_),(5,_),(6,_),(7,_),(0,_),(1,_)]) ⟨rfl,rfl,rfl,rfl,rfl,rfl,rfl,rfl,trivial⟩ ⟨rfl,rfl,rfl,rfl,rfl,rfl,rfl,rfl,trivial⟩ (sA (TL.lss rfl rfl rfl rfl (fun q3=>?_) (fun q3=>?_)))
 refine dS (TC.condT rfl (TC.skip (TQ.then (TC.seq (TC.block (sA (xmi rfl (xai rfl ?_))))))))
 refine dS (TC.drawT (.br [(0,true),(1,true),(2,true),(3,true),(4,true),(5,true),(6,true),(7,true),(8,true),(9,true),(10,true),(11,true),(12,true),(13,true),(14,true),(15,true),(16,true),(17,true),(18,true),(19,true)] 20 21 (.fin [(21,false),(22,false),(23,false)]) (.fin [(20,false),(22,false),(23,false)])) [0,1] fc_m (by kernel_rfl) (TT.br (xf 4 zcs rfl (xls 1 zgx rfl rfl (xmi rfl (TL.iaO rfl hoa rfl zbZ (by first | omega | exact Nat.mod_lt _ (by omega)) rfl rfl (TL.ldRx 0 [_,_,_] rfl rfl hAo (by first | omega | exact Nat.mod_lt _ (by omega)) rfl zcA rfl rfl (xf 4 zcs rfl (xls 1 zgx rfl rfl ?_)))))))))
 refine xmi rfl (xmi rfl (xf 4 zcs rfl (xls 1 zgx rfl rfl (xz zbZ rfl (TL.rem (((turn.toNat % on:Nat):Int)) rfl rfl (by omega) (zqy (by omega)) rfl rfl (TL.add (((i+turn.toNat % on:Nat):Int)) rfl rfl (wrN (by have:=Nat.mod_lt turn.toNat (show 0<on by omega); omega)) rfl rfl (xf 4 zcs rfl (xls 1 zgx rfl rfl ?_))))))))
 refine xz zbZ rfl (TL.rem ((((i+turn.toNat % on) % on:Nat):Int)) rfl rfl (by omega) (zqx) rfl rfl (TL.iaO rfl hoa rfl zbZ (Nat.mod_lt _ (by omega)) rfl rfl (TL.ldRx 0 [_,_,_] rfl rfl hAo (by first | omega | exact Nat.mod_lt _ (by omega)) rfl zcA rfl rfl (TL.both ?_ ?_))))
 refine TL.alloc 8 (cs:=#[.int .i64 0,.int .i64 0,.int .i64 0]) zkr rfl rfl rfl (fun _=>(kL2 rfl rfl trivial)) (fun bk8=>(TL.tree (TT.fin (TL.alloc 9 (cs:=#[.int .i64 0,.int .i64 0,.int .i64 0]) zkr rfl rfl rfl (fun _=>(kL2 rfl rfl trivial)) (fun bk9=>(TL.stW 8 3 [_,_,_] rfl rfl rfl rfl rfl rfl zcA rfl rfl (kL2 rfl rfl trivial) (TL.stW 9 3 [_,_,_] rfl rfl rfl rfl rfl rfl zcA rfl rfl (kL2 rfl rfl trivial) (dA (xf 0 za9 rfl (TL.st 8 #[_,_,_] (.int _ _) rfl rfl rfl rfl rfl rfl zaa rfl rfl trivial (xf 0 za9 rfl ?_)))))))))))
 refine TL.st 9 #[_,_,_] (.int _ _) rfl rfl rfl rfl rfl rfl zaa rfl rfl trivial (dA (xmp rfl (xL3 8 zcA rfl rfl (TL.call [2,3,4] [2,3,4] (ze0 (o:=⟨1,(fo (i)).u,(fo (i)).v⟩) hl hR) ⟨rfl,rfl,trivial⟩ ⟨rfl,rfl,rfl,trivial⟩ zkB rfl rfl rfl rfl ?_))))
 rintro x Bs ⟨rfl,σ2,v2,d2,g2,rfl,hR2,hLv,hIns⟩
 refine ⟨rfl,trivial,?_⟩
 refine xnt rfl (xmf rfl (xmp rfl (xL3 9 zcA rfl rfl (TL.call [5,6,7] [5,6,7] (ze0 (o:=⟨1,(fo (((i+turn.toNat % on) % on))).u,(fo (((i+turn.toNat % on) % on))).v⟩) hl hR1) ⟨rfl,rfl,trivial⟩ ⟨rfl,rfl,rfl,trivial⟩ zkB rfl rfl rfl rfl ?_))))
 rintro x Bs ⟨rfl,τ2,w2,e2,h2,rfl,hR3,hLv3,hIns3⟩
 refine ⟨rfl,trivial,?_⟩
 refine xnt rfl (xpF rfl (TL.done (TQ.then (TC.condF rfl (TC.skip (TQ.inBlock (TQ.then (TC.region ?_))))))))
 refine TL.add (((i+1:Nat):Int)) rfl rfl (wrN (by omega)) rfl rfl (xmi rfl (TL.done (TQ.roundK ((i+1,(_,_,_,_),(_,_,_,_))) ⟨⟨(show i+1≤on by omega),⟨hR2,hC.step hl hR (hIns rfl),hS.step (hIns rfl)⟩,⟨hR3,hC1.step hl hR1 (hIns3 rfl),hS1.step (hIns3 rfl)⟩⟩,(show on - (i+1)<on - i by omega)⟩ ⟨rfl,trivial⟩ ⟨rfl,rfl,rfl,rfl,rfl,rfl,trivial⟩ (kE7 rfl rfl rfl rfl rfl rfl rfl trivial) (kL2 rfl rfl trivial))))
 refine TL.alloc 10 (cs:=#[.int .i64 0,.int .i64 0,.int .i64 0]) zkr rfl rfl rfl (fun _=>(kL2 rfl rfl trivial)) (fun bk10=>(TL.tree (TT.fin (TL.alloc 11 (cs:=#[.int .i64 0,.int .i64 0,.int .i64 0]) zkr rfl rfl rfl (fun _=>(kL2 rfl rfl trivial)) (fun bk11=>(TL.stW 11 3 [_,_,_] rfl rfl rfl rfl rfl rfl zcA rfl rfl (kL2 rfl rfl trivial) (TL.stW 10 3 [_,_,_] rfl rfl rfl rfl rfl rfl zcA rfl rfl (kL2 rfl rfl trivial) (dA (xf 0 za9 rfl (TL.st 11 #[_,_,_] (.int _ _) rfl rfl rfl rfl rfl rfl zaa rfl rfl trivial (xf 0 za9 rfl ?_)))))))))))
 refine TL.st 10 #[_,_,_] (.int _ _) rfl rfl rfl rfl rfl rfl zaa rfl rfl trivial (dA (xmp rfl (xL3 11 zcA rfl rfl (TL.call [2,3,4] [2,3,4] (ze0 (o:=⟨1,(fo (i)).u,(fo (i)).v⟩) hl hR) ⟨rfl,rfl,trivial⟩ ⟨rfl,rfl,rfl,trivial⟩ zkB rfl rfl rfl rfl ?_))))
 rintro x Bs ⟨rfl,σ2,v2,d2,g2,rfl,hR2,hLv,hIns⟩
 refine ⟨rfl,trivial,?_⟩
 refine xnt rfl (xmf rfl (xmp rfl (xL3 10 zcA rfl rfl (TL.call [5,6,7] [5,6,7] (ze0 (o:=⟨1,(fo (((i+turn.toNat % on) % on))).u,(fo (((i+turn.toNat % on) % on))).v⟩) hl hR1) ⟨rfl,rfl,trivial⟩ ⟨rfl,rfl,rfl,trivial⟩ zkB rfl rfl rfl rfl ?_))))
 rintro x Bs ⟨rfl,τ2,w2,e2,h2,rfl,hR3,hLv3,hIns3⟩
 refine ⟨rfl,trivial,?_⟩
 refine xnt rfl (xpF rfl (TL.done (TQ.then (TC.condF rfl (TC.skip (TQ.inBlock (TQ.then (TC.region ?_))))))))
 refine TL.add (((i+1:Nat):Int)) rfl rfl (wrN (by omega)) rfl rfl (xmi rfl (TL.done (TQ.roundK ((i+1,(_,_,_,_),(_,_,_,_))) ⟨⟨(show i+1≤on by omega),⟨hR2,hC.step hl hR (hIns rfl),hS.step (hIns rfl)⟩,⟨hR3,hC1.step hl hR1 (hIns3 rfl),hS1.step (hIns3 rfl)⟩⟩,(show on - (i+1)<on - i by omega)⟩ ⟨rfl,trivial⟩ ⟨rfl,rfl,rfl,rfl,rfl,rfl,trivial⟩ (kE7 rfl rfl rfl rfl rfl rfl rfl trivial) (kL2 rfl rfl trivial))))
 refine dS (TC.condF rfl (TC.exit (TQ.thenExit (TQ.thenExit (TQ.blockHere (TQ.then (TC.seq (TC.seq ?_))))))))
 have hsz:=hR.size hl
 have hsz1:=hR1.size hl
 obtain rfl:i=on:=by omega
 refine TC.ownW 4 rfl (fun a9 g9 c9 hv9 hc9 ha9=>?_)
 cases hv9
 refine TC.ownW 7 rfl (fun a8 g8 c8 hv8 hc8 ha8=>?_)
 cases hv8
 refine TC.draw [(0,true),(1,true),(2,true),(3,true),(4,true),(5,true),(6,true),(7,true),(8,true),(9,true),(10,true),(11,true),(12,true),(13,true),(14,true),(15,true),(16,true),(17,true),(18,true),(19,true),(20,true),(21,true)] [1,2,5] fc_m (by kernel_rfl) (xmp rfl (xN0 rfl (xf 14 zay rfl (xlv 2 zbw rfl rfl (xz zah rfl (xmp rfl (xN0 rfl (xf 14 zay rfl ?_))))))))
 refine xlv 5 zbw rfl rfl (xz zah rfl (TL.neq rfl rfl rfl rfl (fun q4=>?_) (fun q4=>?_)))
 refine xmt rfl (xo rfl (xo rfl (xo rfl (xo rfl (xo rfl (xo rfl (xo rfl (xo rfl ?_))))))))
 refine xo rfl (xpT rfl (dT rfl (TL.callD [] [] zcT trivial trivial zho rfl rfl rfl rfl rfl trivial (xat rfl (dRR ?_)))))
 refine FQ.ret1 (v:=(.bool true)) (Bs:=[_]) [0] rfl rfl rfl ⟨rfl,trivial⟩ ?_
 exact ⟨rfl,rfl⟩
 refine xmf rfl (xmp rfl (xN0 rfl (xf 14 zay rfl (xlv 2 zbw rfl rfl (xz zah rfl (xf 0 zcu rfl (xf 1 zb7 rfl (xli 1 zaa rfl rfl ?_))))))))
 refine TL.eql rfl rfl rfl rfl (fun q5=>?_) (fun q5=>?_)
 refine xpH rfl (dT rfl (TL.callD [] [] zcT trivial trivial zho rfl rfl rfl rfl rfl trivial (xat rfl (dRR ?_))))
 refine FQ.ret1 (v:=(.bool true)) (Bs:=[_]) [0] rfl rfl rfl ⟨rfl,trivial⟩ ?_
 exact ⟨rfl,rfl⟩
 refine xpF rfl (TL.done (TQ.then (TC.condF rfl (TC.skip (TQ.then (TC.seq (TC.seq ?_)))))))
 obtain ⟨hjj,htt⟩:=zk1 hl hR hR1 hC hC1 hS hS1 (by omega) (by omega) (by omega)
 refine TC.region (xmp rfl (xN0 rfl (xf 14 zay rfl (xlv 2 zbw rfl rfl (xz zah rfl (xmi rfl (dK (TC.loopK (X:=Nat) [2,5,6,8,107,108] [0,1,2,3,4,5,6,7] (fun a=>[(109,.int .i64 ((a:Nat):Int)),(7,.int .i64 ((trN g d a:Nat):Int))]) (fun a=>[]) (fun a=>a≤d.size) (fun a=>d.size - a) (0) (Nat.zero_le _) ⟨rfl,rfl,trivial⟩ trivial (fun a hI=>?_)))))))))
 have htn:=zlu (g:=g) (d:=d) (a:=a)
 refine TC.sub (env':=[(109,_),(7,_),(2,_),(5,_),(6,_),(8,_),(107,_),(108,_)]) (L':=[(0,_),(1,_),(2,_),(3,_),(4,_),(5,_),(6,_),(7,_)]) ⟨rfl,rfl,rfl,rfl,rfl,rfl,rfl,rfl,trivial⟩ ⟨rfl,rfl,rfl,rfl,rfl,rfl,rfl,rfl,trivial⟩ (sA (TL.lss rfl rfl rfl rfl (fun q6=>?_) (fun q6=>?_)))
 refine dS (TC.condT rfl (TC.skip (TQ.then (TC.seq (TC.block (sA (TL.iaO rfl ha9 rfl zah (by omega) rfl rfl (TL.ldRx 4 [_,_,_,_,_] rfl rfl (zab ha9) (by omega) rfl zaV rfl rfl ?_))))))))
 refine TL.alloc 12 (cs:=#[.int .i64 0,.int .i64 0,.int .i64 0,.int .i64 0,.bool false]) zc0 rfl rfl rfl (fun _=>trivial) (fun bk12=>(TL.stW 12 5 [_,_,_,_,_] rfl rfl rfl rfl rfl rfl zaV rfl rfl trivial (dS (TC.draw [(0,true),(1,true),(2,true),(3,true),(4,true),(5,true),(6,true),(7,true),(8,true),(9,false),(10,true)] [2,12] fc_m (by kernel_rfl) (xmp rfl (xN0 rfl (xf 4 za3 rfl (xf 0 zaR rfl (xf 0 zas rfl ?_)))))))))
 refine xf 6 zaw rfl (xL4 2 za6 rfl rfl (xf 0 zaS rfl (xli 12 zaa rfl rfl (TL.callD [3] [3] (zdk zcl hl) ⟨rfl,rfl,trivial⟩ ⟨rfl,trivial⟩ zeB rfl rfl rfl rfl rfl (kL2 rfl rfl trivial) ?_))))
 rw [hR.rt.eget hl (hR.dc.row a (by omega)).1]
 refine TL.fv 3 4 (.bool _) rfl zfT zfj rfl rfl rfl (TL.done (TQ.then (TC.cond rfl (fun q7=>?_) (fun q7=>?_))))
 refine TC.region (xmi rfl (TL.add (((trN g d a+1:Nat):Int)) rfl rfl (wrN (by omega)) rfl rfl (xai rfl (dI (TL.add (((a+1:Nat):Int)) rfl rfl (wrN (by omega)) rfl rfl (xmi rfl (TL.done (TQ.roundK (a+1) ⟨by omega,by omega⟩ ⟨rfl,congrArg (fun z:Nat=>some (Value.int .i64 (z:Int))) (zqv (by assumption)),trivial⟩ trivial (kE6 rfl rfl rfl rfl rfl rfl trivial) (kL8 rfl rfl rfl rfl rfl rfl rfl rfl trivial)))))))))
 refine TC.skip (TQ.inBlock (TQ.then (TC.region (TL.add (((a+1:Nat):Int)) rfl rfl (wrN (by omega)) rfl rfl (xmi rfl (TL.done (TQ.roundK (a+1) ⟨by omega,by omega⟩ ⟨rfl,congrArg (fun z:Nat=>some (Value.int .i64 (z:Int))) (zqw (by assumption)),trivial⟩ trivial (kE6 rfl rfl rfl rfl rfl rfl trivial) (kL8 rfl rfl rfl rfl rfl rfl rfl rfl trivial))))))))
 refine dS (TC.condF rfl (TC.exit (TQ.thenExit (TQ.thenExit (TQ.blockHere (TQ.then (TC.seq (TC.seq ?_))))))))
 obtain rfl:a=d.size:=by omega
 refine TC.region (xmp rfl (xN0 rfl (xf 14 zay rfl (xlv 5 zbw rfl rfl (xz zah rfl (xmi rfl (dK (TC.loopK (X:=Nat) [2,5,6,7,130,131] [0,1,2,3,4,5,6,7] (fun a=>[(132,.int .i64 ((a:Nat):Int)),(8,.int .i64 ((trN h e a:Nat):Int))]) (fun a=>[]) (fun a=>a≤e.size) (fun a=>e.size - a) (0) (Nat.zero_le _) ⟨rfl,rfl,trivial⟩ trivial (fun a hI=>?_)))))))))
 have htn:=zlu (g:=h) (d:=e) (a:=a)
 refine TC.sub (env':=[(132,_),(8,_),(2,_),(5,_),(6,_),(7,_),(130,_),(131,_)]) (L':=[(0,_),(1,_),(2,_),(3,_),(4,_),(5,_),(6,_),(7,_)]) ⟨rfl,rfl,rfl,rfl,rfl,rfl,rfl,rfl,trivial⟩ ⟨rfl,rfl,rfl,rfl,rfl,rfl,rfl,rfl,trivial⟩ (sA (TL.lss rfl rfl rfl rfl (fun q7=>?_) (fun q7=>?_)))
 refine dS (TC.condT rfl (TC.skip (TQ.then (TC.seq (TC.block (sA (TL.iaO rfl ha8 rfl zah (by omega) rfl rfl (TL.ldRx 7 [_,_,_,_,_] rfl rfl (zab ha8) (by omega) rfl zaV rfl rfl ?_))))))))
 refine TL.alloc 13 (cs:=#[.int .i64 0,.int .i64 0,.int .i64 0,.int .i64 0,.bool false]) zc0 rfl rfl rfl (fun _=>trivial) (fun bk13=>(TL.stW 13 5 [_,_,_,_,_] rfl rfl rfl rfl rfl rfl zaV rfl rfl trivial (dS (TC.draw [(0,true),(1,true),(2,true),(3,true),(4,true),(5,true),(6,true),(7,true),(8,true),(9,false),(10,true)] [5,13] fc_m (by kernel_rfl) (xmp rfl (xN0 rfl (xf 4 za3 rfl (xf 0 zaR rfl (xf 0 zas rfl ?_)))))))))
 refine xf 6 zaw rfl (xL4 5 za6 rfl rfl (xf 0 zaS rfl (xli 13 zaa rfl rfl (TL.callD [6] [6] (zdk zcl hl) ⟨rfl,rfl,trivial⟩ ⟨rfl,trivial⟩ zeB rfl rfl rfl rfl rfl (kL2 rfl rfl trivial) ?_))))
 rw [hR1.rt.eget hl (hR1.dc.row a (by omega)).1]
 refine TL.fv 3 4 (.bool _) rfl zfT zfj rfl rfl rfl (TL.done (TQ.then (TC.cond rfl (fun q8=>?_) (fun q8=>?_))))
 refine TC.region (xmi rfl (TL.add (((trN h e a+1:Nat):Int)) rfl rfl (wrN (by omega)) rfl rfl (xai rfl (dI (TL.add (((a+1:Nat):Int)) rfl rfl (wrN (by omega)) rfl rfl (xmi rfl (TL.done (TQ.roundK (a+1) ⟨by omega,by omega⟩ ⟨rfl,congrArg (fun z:Nat=>some (Value.int .i64 (z:Int))) (zqv (by assumption)),trivial⟩ trivial (kE6 rfl rfl rfl rfl rfl rfl trivial) (kL8 rfl rfl rfl rfl rfl rfl rfl rfl trivial)))))))))
 refine TC.skip (TQ.inBlock (TQ.then (TC.region (TL.add (((a+1:Nat):Int)) rfl rfl (wrN (by omega)) rfl rfl (xmi rfl (TL.done (TQ.roundK (a+1) ⟨by omega,by omega⟩ ⟨rfl,congrArg (fun z:Nat=>some (Value.int .i64 (z:Int))) (zqw (by assumption)),trivial⟩ trivial (kE6 rfl rfl rfl rfl rfl rfl trivial) (kL8 rfl rfl rfl rfl rfl rfl rfl rfl trivial))))))))
 refine dS (TC.condF rfl (TC.exit (TQ.thenExit (TQ.thenExit (TQ.blockHere (TQ.then (TC.seq (TC.seq ?_))))))))
 obtain rfl:a=e.size:=by omega
 refine TC.region (xf 0 zcu rfl (xf 0 zap rfl (xli 1 zaa rfl rfl (xmi rfl (dK (TC.loopK (X:=Nat) [2,5,6,7,8,152] [0,1,2,3,4,5,6,7] (fun a=>[(153,.int .i64 ((a:Nat):Int))]) (fun a=>[]) (fun a=>a≤l.V) (fun a=>l.V - a) (0) (Nat.zero_le _) ⟨rfl,trivial⟩ trivial (fun a hI=>(TC.sub (env':=[(153,_),(2,_),(5,_),(6,_),(7,_),(8,_),(152,_)]) (L':=[(0,_),(1,_),(2,_),(3,_),(4,_),(5,_),(6,_),(7,_)]) ⟨rfl,rfl,rfl,rfl,rfl,rfl,rfl,trivial⟩ ⟨rfl,rfl,rfl,rfl,rfl,rfl,rfl,rfl,trivial⟩ (sA ?_)))))))))
 refine TL.lss rfl rfl rfl rfl (fun q8=>?_) (fun q8=>?_)
 refine dS (TC.condT rfl (TC.skip (TQ.then (TC.seq (TC.block (sA (xmi rfl (xai rfl ?_))))))))
 refine dA (xf 0 zcu rfl (xf 0 zap rfl (xli 1 zaa rfl rfl (xmi rfl (dK (TC.loopK (X:=Nat) [2,5,6,7,8,16,152,153,158] [0,1,2,3,4,5,6,7] (fun b=>[(159,.int .i64 ((b:Nat):Int))]) (fun b=>[]) (fun b=>b≤l.V) (fun b=>l.V - b) (0) (Nat.zero_le _) ⟨rfl,trivial⟩ trivial (fun b hI=>(TC.sub (env':=[(159,_),(2,_),(5,_),(6,_),(7,_),(8,_),(16,_),(152,_),(153,_),(158,_)]) (L':=[(0,_),(1,_),(2,_),(3,_),(4,_),(5,_),(6,_),(7,_)]) ⟨rfl,rfl,rfl,rfl,rfl,rfl,rfl,rfl,rfl,rfl,trivial⟩ ⟨rfl,rfl,rfl,rfl,rfl,rfl,rfl,rfl,trivial⟩ (sA ?_)))))))))
 refine TL.lss rfl rfl rfl rfl (fun q9=>?_) (fun q9=>?_)
 refine dS (TC.condT rfl (TC.skip (TQ.then (TC.seq (TC.block (sA (xmi rfl (xai rfl ?_))))))))
 refine dS (TC.draw [(0,true),(1,true),(2,true),(3,true),(4,true),(5,true),(7,true),(8,true),(9,true),(10,true),(11,true),(12,true),(6,false),(13,false),(14,true)] [2,5] fc_m (by kernel_rfl) (xmp rfl (xN0 rfl (xf 4 za3 rfl (xL10 2 za5 rfl rfl (xmi rfl (xmi rfl (xmp rfl ?_))))))))
 refine xN0 rfl (xf 4 za3 rfl (xL10 5 za5 rfl rfl (xmi rfl (xmi rfl (TL.callD [3] [3] (zdX (p:=P1) zcl hl (hR.joined hl (u:=(a:Int)) (v:=(b:Int)) (by omega) (by omega))) ⟨rfl,rfl,rfl,trivial⟩ ⟨rfl,trivial⟩ zi1 rfl rfl rfl rfl rfl (kL2 rfl rfl trivial) (TL.callD [6] [6] (zdX (p:=P1) zcl hl (hR1.joined hl (u:=(a:Int)) (v:=(b:Int)) (by omega) (by omega))) ⟨rfl,rfl,rfl,trivial⟩ ⟨rfl,trivial⟩ zi1 rfl rfl rfl rfl rfl (kL2 rfl rfl trivial) (TL.neqB rfl rfl zg3 rfl rfl ?_)))))))
 rw [(show (!(jdB d (a:Int) (b:Int) == jdB e (a:Int) (b:Int)))=false by rw [hjj]; simp)]
 refine TL.done (TQ.then (TC.condF rfl (TC.skip (TQ.inBlock (TQ.then (TC.region (TL.add (((b+1:Nat):Int)) rfl rfl (wrN (by omega)) rfl rfl (xmi rfl ?_))))))))
 refine TL.done (TQ.roundK (b+1) ⟨by omega,by omega⟩ ⟨rfl,trivial⟩ trivial (kE8 rfl rfl rfl rfl rfl rfl rfl rfl (kE1 rfl trivial)) (kL8 rfl rfl rfl rfl rfl rfl rfl rfl trivial))
 refine dS (TC.condF rfl (TC.exit (TQ.thenExit (TQ.thenExit (TQ.blockHere (TQ.inBlock (TQ.then (TC.region ?_))))))))
 refine TL.add (((a+1:Nat):Int)) rfl rfl (wrN (by omega)) rfl rfl (xmi rfl (TL.done (TQ.roundK (a+1) ⟨by omega,by omega⟩ ⟨rfl,trivial⟩ trivial (kE6 rfl rfl rfl rfl rfl rfl trivial) (kL8 rfl rfl rfl rfl rfl rfl rfl rfl trivial))))
 refine dS (TC.condF rfl (TC.exit (TQ.thenExit (TQ.thenExit (TQ.blockHere (TQ.then (sA (xmi rfl ?_))))))))
 refine xmi rfl (TL.eqlT rfl rfl (by omega) rfl rfl (xmt rfl (TL.callD [] [] zcT trivial trivial zho rfl rfl rfl rfl rfl trivial (xpT rfl (xat rfl (dR ?_))))))
 refine FQ.ret1 (v:=(.bool true)) (Bs:=[_]) [0] rfl rfl rfl ⟨rfl,trivial⟩ ?_
 exact ⟨rfl,rfl⟩
end Go.Proofs.YtfmjfdbmpkcndaaGreat
