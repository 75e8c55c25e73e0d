import Derived.Test.YtjnpjkfliochbaaGreatConB
set_option linter.unusedVariables false
set_option linter.unusedSimpArgs false
set_option maxRecDepth 20000
namespace Go.Proofs.YtjnpjkfliochbaaGreat
open Go.Eng Go.Tm
set_option maxHeartbeats 2000000 in
theorem zhS {l:Lay} (hl:l.Ok) {pb ab mb gA gG cA cG nn:Nat} {bs:Array Nat} {gos:Array (Option Nat)} {ts:Nat→TakeS} {gd:Nat→Array Int} {σ:Array UInt64} {par rt:Int→Int} {fn:Nat→Op2} {B:Int} (hn8:nn≤8) (hbs:bs.size=nn) (hP:AP l σ par rt nn fn ts gos gd (B)):FnD Tryz.prog 26 [.pointer (some ⟨pb,0,none⟩)] [pt pb (.cells #[.int .i64 l.V,.int .i64 l.S,.int .i64 l.T,.pointer (some ⟨ab,0,none⟩),.int .i64 l.V,.int .i64 l.S,.int .i64 l.T,.iface 88 (.agg #[.pointer (some ⟨ab,0,none⟩)]),.int .i64 1,.int .i64 0,.int .i64 l.V,.int .i64 l.S,.int .i64 l.T,.iface 88 (.agg #[.pointer (some ⟨ab,0,none⟩)]),.slice (some ⟨gA,0,none⟩) nn cA,.slice (some ⟨gG,0,none⟩) nn cG] 53),zar ab mb 140 71 (σ),ownA zhm 1 55 (.slice (some ⟨gA,0,none⟩) nn cA) (bs),ownA zgb 1 57 (.slice (some ⟨gG,0,none⟩) nn cG) (gos),bigA (zau 130 157 189 3 l (bs) (ts)) (nn)] (.bool true) [pt pb (.cells #[.int .i64 l.V,.int .i64 l.S,.int .i64 l.T,.pointer (some ⟨ab,0,none⟩),.int .i64 l.V,.int .i64 l.S,.int .i64 l.T,.iface 88 (.agg #[.pointer (some ⟨ab,0,none⟩)]),.int .i64 1,.int .i64 0,.int .i64 l.V,.int .i64 l.S,.int .i64 l.T,.iface 88 (.agg #[.pointer (some ⟨ab,0,none⟩)]),.slice (some ⟨gA,0,none⟩) nn cA,.slice (some ⟨gG,0,none⟩) nn cG] 53),zar ab mb 140 71 (σ),ownA zhm 1 55 (.slice (some ⟨gA,0,none⟩) nn cA) (bs),ownA zgb 1 57 (.slice (some ⟨gG,0,none⟩) nn cG) (gos),bigA (zau 130 157 189 3 l (bs) (ts)) (nn)]:=by
 have hgz:=hP.gz
 have hcb:=zdV hl
 refine Fn.enter (Tryz.func26) rfl rfl (fun w0 R=>?_)
 refine sA (xaf rfl (dA (TL.mkMA 5 (fun z:Int=>.int .i64 z) (fun z:Int=>.int .i64 z) rfl rfl (fun bk5=>⟨trivial,?_⟩))))
 refine TL.asg (.map _) rfl rfl rfl (dB (xmp rfl (xN0 rfl (xf 14 zci rfl (xlv 0 zhD rfl rfl (xz zcg rfl (xmi rfl (dK ?_))))))))
 refine TC.loopK (X:=Nat×List (Int×Int)) [0,3,16,17] [0,1,2,3,4] (fun ⟨i,qs⟩=>[(18,.int .i64 ((i:Nat):Int))]) (fun ⟨i,qs⟩=>[(5,mapA bk5 (fun z:Int=>.int .i64 z) (fun z:Int=>.int .i64 z) qs)]) (fun ⟨i,qs⟩=>i≤nn∧MH ts gos i 0 qs) (fun ⟨i,qs⟩=>nn - i) ((0,[])) ⟨Nat.zero_le _,fun p hp=>by cases hp⟩ ⟨rfl,trivial⟩ ⟨rfl,trivial⟩ (fun y hI=>?_)
 obtain ⟨i,qs⟩:=y
 obtain ⟨hi,hM⟩:=hI
 replace hi:i≤nn:=hi
 replace hM:MH ts gos i 0 qs:=hM
 refine TC.sub (env':=[(18,_),(0,_),(3,_),(16,_),(17,_)]) (L':=[(5,_),(0,_),(1,_),(2,_),(3,_),(4,_)]) ⟨rfl,rfl,rfl,rfl,rfl,trivial⟩ ⟨rfl,rfl,rfl,rfl,rfl,rfl,trivial⟩ (sA (TL.lss rfl rfl rfl rfl (fun q1=>?_) (fun q1=>?_)))
 refine dS (TC.condT rfl (TC.skip (TQ.then (TC.seq (TC.block (sA (xmi rfl (TL.iaO rfl (fun _=>rfl) rfl zcg (by omega) rfl rfl ?_))))))))
 refine TL.ldRS 2 (.pointer (some ⟨bs[i]!,0,none⟩)) rfl rfl (zbM (by omega)) (by omega) (rfl) znC rfl rfl (xai rfl (xap rfl (dB (xmp rfl (TL.nilP false rfl rfl znF rfl rfl rfl (TL.done (TQ.then (TC.condF rfl ?_))))))))
 refine TC.skip (TQ.then (sB (xmp rfl (xN0 rfl (xf 15 zbe rfl (xlv 0 zeE rfl rfl (xmi rfl (TL.iaO rfl (fun _=>rfl) rfl zbu (by omega) rfl rfl ?_))))))))
 refine TL.ldRS 3 (.pointer (poA gos[i]!)) rfl rfl (zbM (by omega)) (by omega) ((zfp _)) zf3 rfl rfl (TL.nilP _ rfl rfl zjd rfl rfl rfl (TL.cases rfl (fun q2=>?_) (fun q2=>?_)))
 refine TL.done (TQ.then (TC.condT rfl (TC.exit (TQ.thenExit (TQ.blockHere (TQ.then ?_))))))
 first | refine TC.bigC 4 {tk} i (zau 130 157 189 3 l (bs) (ts)) rfl rfl (by decide) (fun x h=>h) (fun j hj hne x h=>by unfold zbq at h; rwa [if_neg hne] at h) ?_ | skip
 refine TC.region (TL.add (((i+1:Nat):Int)) rfl rfl (wrN (by omega)) rfl rfl (xmi rfl (TL.done (TQ.roundK ((i+1,qs)) ⟨⟨(show i+1≤nn by omega),fun p hp=>by obtain ⟨j,m,h1,h2⟩:=hM p hp; exact ⟨j,m,by omega,h2⟩⟩,(show nn - (i+1)<nn - i by omega)⟩ ⟨rfl,trivial⟩ ⟨rfl,trivial⟩ (kE4 rfl rfl rfl rfl trivial) (kL5 rfl rfl rfl rfl rfl trivial)))))
 refine TL.done (TQ.then (TC.condF rfl (TC.skip (TQ.then (TC.seq ?_)))))
 have hgn:gos[i]! =none:=zkP (by assumption)
 refine TC.bigO 4 6 i rfl (by omega) (by decide) (TC.region (xmp rfl (TL.call [6] [6,7] (zkD (hP.w i (by omega)).1) ⟨rfl,trivial⟩ ⟨rfl,trivial⟩ zqn rfl rfl rfl rfl ?_)))
 rintro x Bs ⟨_,rfl⟩
 refine ⟨rfl,trivial,?_⟩
 refine TL.rowS 7 rfl (fun a7 b7 o7 c7 hv7 hc7 ha7=>⟨trivial,?_⟩)
 cases hv7
 have hh2:=(hP.w i (by omega)).1.2
 refine xz zag rfl (xmi rfl (dK (TC.loopK (X:=Nat×List (Int×Int)) [0,3,4,16,17,18,34,35] [0,1,2,3,4,6,7] (fun ⟨k,qs2⟩=>[(36,.int .i64 ((k:Nat):Int))]) (fun ⟨k,qs2⟩=>[(5,mapA bk5 (fun z:Int=>.int .i64 z) (fun z:Int=>.int .i64 z) qs2)]) (fun ⟨k,qs2⟩=>k≤(ts i).held.size∧MH ts gos i k qs2) (fun ⟨k,qs2⟩=>(ts i).held.size - k) ((0,qs)) ⟨Nat.zero_le _,hM⟩ ⟨rfl,trivial⟩ ⟨rfl,trivial⟩ (fun y hI=>?_))))
 clear hM
 obtain ⟨k,qs2⟩:=y
 obtain ⟨hk,hM⟩:=hI
 replace hk:k≤(ts i).held.size:=hk
 replace hM:MH ts gos i k qs2:=hM
 refine TC.sub (env':=[(36,_),(0,_),(3,_),(4,_),(16,_),(17,_),(18,_),(34,_),(35,_)]) (L':=[(5,_),(0,_),(1,_),(2,_),(3,_),(4,_),(6,_),(7,_)]) ⟨rfl,rfl,rfl,rfl,rfl,rfl,rfl,rfl,rfl,trivial⟩ ⟨rfl,rfl,rfl,rfl,rfl,rfl,rfl,rfl,trivial⟩ (sA (TL.lss rfl rfl rfl rfl (fun q3=>?_) (fun q3=>?_)))
 refine dS (TC.condT rfl (TC.skip (TQ.then (TC.seq (TC.block (sA (TL.iaO rfl ha7 rfl zag (by omega) rfl rfl (TL.ldRS 7 (.int _ _) rfl rfl zcV (by omega) (rfl) zae rfl rfl ?_))))))))
 refine xai rfl (dB (TL.mv (.map _) rfl rfl rfl (xmi rfl (TL.lkD1 5 (q:=(ts i).held[k]!) ((0:Int)) rfl rfl rfl zeR (zp9 zby) zpA rfl rfl trivial (TL.neqF rfl rfl (fun h=>h (hM.none hl hP (by omega) hgn (by omega))) rfl rfl (TL.done (TQ.then (TC.condF rfl ?_))))))))
 refine TC.skip (TQ.then (TC.region (TL.mv (.map _) rfl rfl rfl (xmi rfl (xmi rfl (TL.add _ rfl rfl (wr64 (by omega)) rfl rfl (TL.muA 5 (q:=(ts i).held[k]!) (b:=((i:Nat):Int)+1) rfl rfl rfl rfl zeR (zp9 zby) rfl rfl trivial (dI ?_))))))))
 refine TL.add (((k+1:Nat):Int)) rfl rfl (wrN (by omega)) rfl rfl (xmi rfl (TL.done (TQ.roundK ((k+1,_)) ⟨⟨(show k+1≤(ts i).held.size by omega),hM.put hgn (by omega)⟩,(show (ts i).held.size - (k+1)<(ts i).held.size - k by omega)⟩ ⟨rfl,trivial⟩ ⟨rfl,trivial⟩ (kE8 rfl rfl rfl rfl rfl rfl rfl rfl trivial) (kL7 rfl rfl rfl rfl rfl rfl rfl trivial))))
 refine dS (TC.condF rfl (TC.exit (TQ.thenExit (TQ.thenExit (TQ.blockHere (TQ.inBlock (TQ.then ?_)))))))
 first | refine TC.bigC 4 6 i (zau 130 157 189 3 l (bs) (ts)) rfl rfl (by decide) (fun x h=>h) (fun j hj hne x h=>by unfold zbq at h; rwa [if_neg hne] at h) ?_ | skip
 refine TC.region (TL.add (((i+1:Nat):Int)) rfl rfl (wrN (by omega)) rfl rfl (xmi rfl (TL.done (TQ.roundK ((i+1,qs2)) ⟨⟨(show i+1≤nn by omega),hM.row⟩,(show nn - (i+1)<nn - i by omega)⟩ ⟨rfl,trivial⟩ ⟨rfl,trivial⟩ (kE4 rfl rfl rfl rfl trivial) (kL5 rfl rfl rfl rfl rfl trivial)))))
 refine dS (TC.condF rfl (TC.exit (TQ.thenExit (TQ.thenExit (TQ.blockHere (TQ.then (TC.seq (TC.seq ?_))))))))
 obtain rfl:i=nn:=by omega
 refine TC.region (TL.mv (.map _) rfl rfl rfl (TL.rng 5 8 (by decide) rfl rfl zeR rfl rfl (fun it_hm=>⟨trivial,?_⟩)))
 refine dK (TC.loopK (X:=List Nat) [0,51] [0,1,2,3,4] (fun vs=>[]) (fun vs=>[(5,ze4 bk5 it_hm (fun z:Int=>.int .i64 z) (fun z:Int=>.int .i64 z) qs vs)]) (fun vs=>vs.Nodup∧∀ j∈vs,j<qs.length) (fun vs=>qs.length - vs.length) ([]) ⟨List.nodup_nil,fun j hj=>by cases hj⟩ trivial ⟨rfl,trivial⟩ (fun vs hI=>?_))
 obtain ⟨hvn,hvl⟩:=hI
 refine TC.sub (env':=[(0,_),(51,_)]) (L':=[(5,_),(0,_),(1,_),(2,_),(3,_),(4,_)]) ⟨rfl,rfl,trivial⟩ ⟨rfl,rfl,rfl,rfl,rfl,rfl,trivial⟩ (sA (TL.nxt 5 rfl rfl rfl rfl trivial (fun hall0=>?_) (fun _=>trivial) (fun iv qv hqv hiv=>?_)))
 refine TL.ext (.bool false) rfl rfl rfl rfl (dS (TC.condF rfl (TC.exit (TQ.thenExit (TQ.thenExit (TQ.blockHere (TQ.then (sA ?_))))))))
 refine xat rfl (dR ?_)
 refine FQ.ret1 (v:=(.bool true)) (Bs:=[_,_,_,_,_]) [0,1,2,3,4] rfl rfl rfl ⟨rfl,rfl,rfl,rfl,rfl,trivial⟩ ?_
 exact ⟨rfl,rfl⟩
 refine xet rfl rfl (dS (TC.condT rfl (TC.skip (TQ.then (TC.block (sA (TL.ent 5 hqv rfl rfl rfl rfl trivial (xei rfl rfl ?_))))))))
 refine xei rfl rfl (xai rfl (xai rfl (dS (TC.draw [(0,true),(1,true),(2,true),(3,true),(4,true),(5,true),(6,true),(7,true),(8,true),(9,false),(10,false),(11,true),(12,true),(13,true),(14,true),(15,true)] [0] fc_m (by kernel_rfl) (xmp rfl (xN0 rfl (xf 3 zcQ rfl (xlp 0 zf4 rfl rfl ?_))))))))
 refine xmp rfl (xN0 rfl (xf 0 zhH rfl (xL3 0 zaa rfl rfl (xmi rfl (TL.callD [] [] (zaE hl) ⟨rfl,rfl,rfl,trivial⟩ trivial zbm rfl rfl rfl rfl rfl (kL1 rfl trivial) (TL.callD [1] [1] ziD ⟨rfl,rfl,trivial⟩ ⟨rfl,trivial⟩ zje rfl rfl rfl rfl rfl (kL1 rfl trivial) (xmu rfl (xei rfl rfl ?_))))))))
 refine xei rfl rfl (xai rfl (xai rfl (dA (xmi rfl (xmi rfl (TL.conv _ rfl zeM zaX (zoR (by have:=hM.lock hl hP rfl (List.mem_of_getElem? hqv); omega)) rfl rfl (TL.neqF rfl rfl (fun h=>h (hM.lock hl hP rfl (List.mem_of_getElem? hqv)).1) rfl rfl (TL.done ?_))))))))
 refine TQ.then (TC.condF rfl (TC.skip (TQ.inBlock (TQ.roundK (vs++[iv]) ⟨⟨(zjs hvn hvl hiv (List.getElem?_eq_some_iff.1 hqv).1).1,(zjs hvn hvl hiv (List.getElem?_eq_some_iff.1 hqv).1).2.1⟩,(zjs hvn hvl hiv (List.getElem?_eq_some_iff.1 hqv).1).2.2⟩ trivial ⟨rfl,trivial⟩ (kE2 rfl rfl trivial) (kL5 rfl rfl rfl rfl rfl trivial)))))
theorem zg9 {a b:Int}:FnD Tryz.prog 28 [.int .i64 a,.int .i64 b] [] (.int .i64 (if a≠b then 1 else 0)) []:=by
 refine Fn.enter (Tryz.func28) rfl rfl (fun w0 R=>?_)
 refine sA (xai rfl (dB (xmi rfl (xmi rfl (TL.neq rfl rfl rfl rfl (fun q1=>?_) (fun q1=>?_))))))
 refine dT rfl (xai rfl (dRR ?_))
 refine FQ.ret1 (v:=(.int _ _)) (Bs:=[]) [] rfl rfl rfl trivial ?_
 exact ⟨iE (by rw [if_pos (by assumption)]),rfl⟩
 refine dF rfl (xai rfl (dR ?_))
 refine FQ.ret1 (v:=(.int _ _)) (Bs:=[]) [] rfl rfl rfl trivial ?_
 exact ⟨iE (by rw [if_neg (by assumption)]),rfl⟩
theorem zl9 {V S T:Int} {da ea na:Option Addr} {dn dc en ec nn nc:Nat} {Ad:Assn} {bd offd be offe bn offn:Nat} {fd:Nat→Int} {fe fn:Nat→Op2} (hda:0<dn→da=some ⟨bd,offd,none⟩) (hAd:zaV Ad encU 1 bd offd dn fd) (hfd:∀ i,i<dn→0≤fd i∧fd i<18446744073709551616) (hea:0<en→ea=some ⟨be,offe,none⟩) (hAe:zaV Ad zfq 2 be offe en fe) (hec:en≤ec) (hna:0<nn→na=some ⟨bn,offn,none⟩) (hAn:zaV Ad zfq 2 bn offn nn fn) (hnc:nn≤nc)  {qa:Option Addr} {bq offq qn qc:Nat} {fq:Nat→Int} (hqa:0<qn→qa=some ⟨bq,offq,none⟩) (hAq:zaV Ad encI 1 bq offq qn fq)  (hno:¬(okL V S T∧V≤8∧S≤12∧dn≤60∧en≤30∧1≤nn∧(nn:Int)≤T∧∀ i,i<nn→EndOk V (fn i))):FnD Tryz.prog 4 [.agg #[.int .i64 V,.int .i64 S,.int .i64 T,.slice da dn dc,.slice ea en ec,.slice na nn nc],.slice qa qn qc] [Ad] (.bool true) [Ad]:=by
 refine Fn.enter (Tryz.func4) rfl rfl (fun w0 R=>?_)
 refine sA (xB 1 rfl (fun bk1=>(xaf rfl (dB (xL6 1 zix rfl rfl (TL.callD [0] [0] (zhw hda hAd hfd hea hAe hec hna hAn hnc) ⟨rfl,trivial⟩ ⟨rfl,trivial⟩ zqv rfl rfl rfl rfl rfl trivial ?_))))))
 rw [decide_eq_false hno]
 refine xnf rfl (xmt rfl (xo rfl (xo rfl (xo rfl (xpT rfl (dT rfl (TL.callD [] [] zfS trivial trivial znV rfl rfl rfl rfl rfl trivial (xat rfl ?_))))))))
 refine dRR ?_
 refine FQ.ret1 (v:=(.bool true)) (Bs:=[_]) [0] rfl rfl rfl ⟨rfl,trivial⟩ ?_
 exact ⟨rfl,rfl⟩
set_option maxHeartbeats 4000000 in
theorem zma {l:Lay} (hl:l.Ok)  {da ea na:Option Addr} {dn dc en ec nn nc:Nat} {Ad:Assn} {bd offd be offe bn offn:Nat} {fd:Nat→Int} {fe fn:Nat→Op2} (hda:0<dn→da=some ⟨bd,offd,none⟩) (hAd:zaV Ad encU 1 bd offd dn fd) (hfd:∀ i,i<dn→0≤fd i∧fd i<18446744073709551616) (hea:0<en→ea=some ⟨be,offe,none⟩) (hAe:zaV Ad zfq 2 be offe en fe) (hec:en≤ec) (hna:0<nn→na=some ⟨bn,offn,none⟩) (hAn:zaV Ad zfq 2 bn offn nn fn) (hnc:nn≤nc)  {qa:Option Addr} {bq offq qn qc:Nat} {fq:Nat→Int} (hqa:0<qn→qa=some ⟨bq,offq,none⟩) (hAq:zaV Ad encI 1 bq offq qn fq)  (hok:(okL l.V l.S l.T∧(l.V:Int)≤8∧(l.S:Int)≤12∧dn≤60∧en≤30∧1≤nn∧(nn:Int)≤l.T∧∀ i,i<nn→EndOk l.V (fn i))):FnD Tryz.prog 4 [.agg #[.int .i64 l.V,.int .i64 l.S,.int .i64 l.T,.slice da dn dc,.slice ea en ec,.slice na nn nc],.slice qa qn qc] [Ad] (.bool true) [Ad]:=by
 obtain ⟨hk1,hk2,hk3,hk4,hk5,hk6,hk7,hEn⟩:=hok
 have hok:(okL l.V l.S l.T∧(l.V:Int)≤8∧(l.S:Int)≤12∧dn≤60∧en≤30∧1≤nn∧(nn:Int)≤l.T∧∀ i,i<nn→EndOk l.V (fn i)):=⟨hk1,hk2,hk3,hk4,hk5,hk6,hk7,hEn⟩
 have hT:nn≤l.T:=by omega
 have hvt:=za3 hl
 have hnb:=zaI hl
 have hcb:=zdV hl
 have hlb:=zb3 hl
 have hob:=zbQ hl
 have hlk:=zii hl
 have hhd:l.heads=l.T+1+l.S * 7:=rfl
 refine Fn.enter (Tryz.func4) rfl rfl (fun w0 R=>?_)
 refine sA (xB 1 rfl (fun bk1=>(xaf rfl (dB (xL6 1 zix rfl rfl (TL.callD [0] [0] (zhw hda hAd hfd hea hAe hec hna hAn hnc) ⟨rfl,trivial⟩ ⟨rfl,trivial⟩ zqv rfl rfl rfl rfl rfl trivial ?_))))))
 rw [decide_eq_true hok]
 refine xnt rfl (xmf rfl (xms rfl (xz zag rfl (TL.gtr rfl rfl rfl rfl (fun q1=>?_) (fun q1=>?_)))))
 refine xpH rfl (dT rfl (TL.callD [] [] zfS trivial trivial znV rfl rfl rfl rfl rfl trivial (xat rfl (dRR ?_))))
 refine FQ.ret1 (v:=(.bool true)) (Bs:=[_]) [0] rfl rfl rfl ⟨rfl,trivial⟩ ?_
 first | exact ⟨rfl,rfl⟩ | (exfalso; simp_all; done)
 refine xpF rfl (dF rfl (xL6 1 zix rfl rfl (TL.call [0] [0,2,3,4,5,6] (zl7 hl hda hAd hfd hea hAe hec hna hAn hnc (by omega) (by omega) (by omega)) ⟨rfl,trivial⟩ ⟨rfl,trivial⟩ ztv rfl rfl rfl rfl ?_)))
 rintro x Bs ⟨pb,ab,mb,av,gv,bs,gos,σ,par,rt,g,rfl,rfl,hbs,hgo,hK,hlk0,hlkC⟩
 refine ⟨rfl,trivial,?_⟩
 have hG0:=GL.start hl hK hlk0 (n:=nn) (fe:=fn) hT hEn
 refine xap rfl (dB (xmp rfl (TL.nilP false rfl rfl ztf rfl rfl rfl (TL.done (TQ.then (TC.condF rfl (TC.skip (TQ.then ?_))))))))
 refine TC.seq (TC.seq (TC.ownW 4 rfl (fun aA gA cA hvA hcA haA=>?_)))
 subst hvA
 rw [hbs] at haA hcA ⊢
 obtain rfl:=haA (by omega)
 refine TC.ownW 5 rfl (fun aG gG cG hvG hcG haG=>?_)
 subst hvG
 rw [hgo.1] at haG hcG ⊢
 obtain rfl:=haG (by omega)
 have hP0:=AP.start (gd:=fun _=>#[]) hl hK hG0 hgo.1 hgo.2
 refine TC.nilA 7 (A:=bigA (zaG 138 l gos (fun _=>#[])) nn) (znm hgo.2) (TC.region (xms rfl (xz zag rfl (xmi rfl (dK ?_)))))
 refine TC.loopK (X:=Nat×M×(Nat→TakeS)×Array Nat×Array (Option Nat)×(Nat→Array Int)) [2,5,28,29] [0,1,2] (fun ⟨i,σ8,ts,bs,gos,gd⟩=>[(30,.int .i64 ((i:Nat):Int))]) (fun ⟨i,σ8,ts,bs,gos,gd⟩=>[(3,zar ab mb 140 71 (σ8)),(4,ownA zhm 1 55 (.slice (some ⟨gA,0,none⟩) nn cA) (bs)),(5,ownA zgb 1 57 (.slice (some ⟨gG,0,none⟩) nn cG) (gos)),(6,bigA (zau 130 157 189 3 l (bs) (ts)) (nn)),(7,bigA (zaG 138 l (gos) (gd)) nn)]) (fun ⟨i,σ8,ts,bs,gos,gd⟩=>i≤qn∧AP l σ8 par rt nn fn ts gos gd (1+(i:Int))∧Lk0 l (fun x=>if dn=0 then 0 else fd (x.toNat % dn)) σ8 par rt g∧bs.size=nn) (fun ⟨i,σ8,ts,bs,gos,gd⟩=>qn - i) ((0,σ,ts0 l fn,bs,gos,fun _=>#[])) ⟨Nat.zero_le _,hP0.mono (show (1:Int)≤1+((0:Nat):Int) by omega),hK,hbs⟩ ⟨rfl,trivial⟩ ⟨rfl,rfl,rfl,rfl,rfl,trivial⟩ (fun y hI=>?_)
 clear hP0 hgo hbs
 obtain ⟨i,σ8,ts,bs,gos,gd⟩:=y
 obtain ⟨hi,hP,hK8,hbs⟩:=hI
 replace hi:i≤qn:=hi
 replace hP:AP l σ8 par rt nn fn ts gos gd (1+(i:Int)):=hP
 replace hK8:Lk0 l (fun x=>if dn=0 then 0 else fd (x.toNat % dn)) σ8 par rt g:=hK8
 replace hbs:bs.size=nn:=hbs
 refine TC.sub (env':=[(30,_),(2,_),(5,_),(28,_),(29,_)]) (L':=[(3,_),(4,_),(5,_),(6,_),(7,_),(0,_),(1,_),(2,_)]) ⟨rfl,rfl,rfl,rfl,rfl,trivial⟩ ⟨rfl,rfl,rfl,rfl,rfl,rfl,rfl,rfl,trivial⟩ (sA (TL.lss rfl rfl rfl rfl (fun q2=>?_) (fun q2=>?_)))
 refine dS (TC.condT rfl (TC.skip (TQ.then (TC.seq (TC.block (sA (TL.iaO rfl hqa rfl zag (by omega) rfl rfl (TL.ldRS 0 (.int _ _) rfl rfl hAq (by omega) (rfl) zae rfl rfl ?_))))))))
 refine xai rfl (dB (xmi rfl (TL.lss rfl rfl rfl rfl (fun q3=>?_) (fun q3=>?_))))
 refine TL.done (TQ.then (TC.condT rfl (TC.exit (TQ.thenExit (TQ.blockHere (TQ.then ?_))))))
 first | (refine TC.bigC 6 {tk2} k (zau 130 157 189 3 l (bs.setIfInBounds k tb) (setT ts k (take0 l (fn k).u (fn k).v ((k+1:Nat):Int)))) rfl rfl (by decide) (zaA (n:=nn) (by omega)).1 (zaA (n:=nn) (by omega)).2 ?_; refine TC.conseq 3 (B:=zar ab mb 140 71 (σ8)) rfl (fun h hh=>zaK hh) ?_; refine TC.bigC 7 {gk} k (zaG 138 l (gos.setIfInBounds k none) (setD gd k #[])) rfl rfl (by decide) (fun x _=>(zai (n:=nn) (d:=#[]) (b:=none) (show k<gos.size by omega)).2.1 rfl x trivial) (zai (n:=nn) (d:=#[]) (b:=none) (show k<gos.size by omega)).2.2 ?_) | (refine TC.bigC 6 {tk} k (zau 130 157 189 3 l (bs) (ts)) rfl rfl (by decide) (fun x h=>h) (fun j hj hne x h=>by unfold zbq at h; rwa [if_neg hne] at h) ?_; refine TC.conseq 3 (B:=zar ab mb 140 71 (σ8)) rfl (fun h hh=>zaK hh) ?_; refine TC.bigC 7 {gv} k (zaG 138 l (gos.setIfInBounds k (some gb)) (setD gd k (ts k).held)) rfl rfl (by decide) ((zai (n:=nn) (d:=(ts k).held) (b:=some gb) (show k<gos.size by omega)).1 gb rfl) (zai (n:=nn) (d:=(ts k).held) (b:=some gb) (show k<gos.size by omega)).2.2 ?_) | (refine TC.bigC 6 {tk9} k (zau 130 157 189 3 l (bs) (ts9)) rfl rfl (by decide) (fun x h=>h) (fun j hj hne x h=>by unfold zbq at h; rwa [if_neg hne] at h) ?_) | skip
 refine TC.region (TL.add (((i+1:Nat):Int)) rfl rfl (wrN (by omega)) rfl rfl (xmi rfl (TL.done (TQ.roundK ((i+1,σ8,ts,bs,gos,gd)) ⟨⟨(show i+1≤qn by omega),hP.mono (by omega),hK8,hbs⟩,(show qn - (i+1)<qn - i by omega)⟩ ⟨rfl,trivial⟩ ⟨rfl,rfl,rfl,rfl,rfl,trivial⟩ (kE4 rfl rfl rfl rfl trivial) (kL3 rfl rfl rfl trivial)))))
 refine TL.done (TQ.then (TC.condF rfl (TC.skip (TQ.then (TC.seq ?_)))))
 obtain ⟨k,hk,hkn⟩:∃ k:Nat,(fq i).tmod (nn:Int)=(k:Int)∧k<nn:=zoV (by omega) (by omega) rfl
 have hgz:=hP.gz
 refine TC.region (xmi rfl (xmp rfl (xN0 rfl (xf 14 zci rfl (xlv 2 zhD rfl rfl (xz zcg rfl (TL.rem (((k:Nat):Int)) rfl rfl (by omega) (hk) rfl rfl (xai rfl ?_))))))))
 refine dS (TC.bigO 6 8 k rfl (by omega) (by decide) (TC.region (xmp rfl (xN0 rfl (xf 14 zci rfl (xlv 2 zhD rfl rfl (xmi rfl (TL.iaO rfl (fun _=>rfl) rfl zcg (by omega) rfl rfl ?_))))))))
 refine TL.ldRS 4 (.pointer (some ⟨bs[k]!,0,none⟩)) rfl rfl (zbM (by omega)) (by omega) (rfl) znC rfl rfl (xap rfl (dB (xmp rfl (TL.nilP false rfl rfl znF rfl rfl rfl (TL.done (TQ.then (TC.condF rfl (TC.skip ?_))))))))
 refine TQ.then (TC.seq (TC.openE 3 rfl (fun n0=>(TC.region (xmp rfl (xN0 rfl (xf 3 zcQ rfl (xlp 2 zf4 rfl rfl (TL.callD [3] [3] zeX ⟨rfl,trivial⟩ ⟨rfl,trivial⟩ znK rfl rfl rfl rfl rfl trivial ?_)))))))))
 refine TL.alloc 9 (cs:=#[.int .i64 0,.int .i64 0,.int .i64 0,.int .i64 0,.int .i64 0]) zk9 rfl rfl rfl (fun _=>trivial) (fun bk9=>(TL.stW 9 5 [_,_,_,_,_] rfl rfl rfl rfl rfl rfl zeq rfl rfl trivial (dS (TC.block (sA (xmp rfl (xN0 rfl (xf 15 zbe rfl (xlv 2 zeE rfl rfl ?_)))))))))
 refine xmi rfl (TL.iaO rfl (fun _=>rfl) rfl zbu (by omega) rfl rfl (TL.ldRS 5 (.pointer (poA gos[k]!)) rfl rfl (zbM (by omega)) (by omega) ((zfp _)) zf3 rfl rfl (TL.nilP _ rfl rfl zjd rfl rfl rfl (TL.cases rfl (fun q4=>?_) (fun q4=>?_)))))
 refine xat rfl (TL.done (TQ.then (TC.condT rfl (TC.seq (TC.seq ?_)))))
 obtain ⟨gb,hgb⟩:=zpb (by assumption)
 refine TC.bigO 7 10 k rfl (by omega) (by decide) (TC.conseq 10 (B:=zda 138 gb l (gd k)) rfl (zj3 hgb) ?_)
 have hV:=hP.gv k gb hkn hgb
 refine TC.region (xmp rfl (xN0 rfl (xf 15 zbe rfl (xlv 2 zeE rfl rfl (xmi rfl (TL.iaO rfl (fun _=>rfl) rfl zbu (by omega) rfl rfl (TL.ldRS 5 (.pointer (some ⟨gb,0,none⟩)) rfl rfl (zbM (by omega)) (by omega) ((by rw [hgb]; rfl)) zf3 rfl rfl (TL.callD [10] [10] zi8 ⟨rfl,trivial⟩ ⟨rfl,trivial⟩ zhN rfl rfl rfl rfl rfl trivial ?_))))))))
 refine TL.cases rfl (fun q5=>?_) (fun q5=>?_)
 refine TL.done (TQ.then (TC.condT rfl (TC.seq ?_)))
 have hP9:=hP.toNew (d:=#[]) hl hkn (hEn k hkn) (by omega)
 refine TC.draw [(0,true),(1,true),(2,true),(3,true),(4,true),(5,true),(6,true),(7,true),(8,true),(9,true),(10,true),(11,true),(12,true),(13,true),(14,true),(15,true),(16,true),(17,true),(18,true),(19,true),(20,true),(21,true),(22,true),(23,true),(24,true),(25,true),(26,false),(27,true),(28,false),(29,true),(30,false)] [0,1,2] fc_m (by kernel_rfl) (xmp rfl (xN0 rfl (xf 15 zbe rfl (xlv 2 zeE rfl rfl (xmi rfl (xmp rfl (xN0 rfl (xf 14 zci rfl ?_))))))))
 refine xlv 2 zhD rfl rfl (xmi rfl (xf 0 zbk rfl (xL3 1 zaa rfl rfl (xf 5 zbA rfl (xls 1 zdZ rfl rfl (xmi rfl (TL.iaO rfl hna rfl zaL (by omega) rfl rfl (xf 0 zbj rfl ?_))))))))
 refine TL.ldRF 0 (.int _ _) rfl rfl hAn (by omega) (zer _).1 rfl zae rfl rfl (xf 5 zbA rfl (xls 1 zdZ rfl rfl (xmi rfl (TL.iaO rfl hna rfl zaL (by omega) rfl rfl (xf 1 zbi rfl (TL.ldRF 0 (.int _ _) rfl rfl hAn (by omega) (zer _).1 rfl zae rfl rfl (xmi rfl (TL.add (((k+1:Nat):Int)) rfl rfl (wrN (by omega)) rfl rfl ?_))))))))
 refine TL.call [] [11] (zjz hl) ⟨rfl,rfl,rfl,rfl,trivial⟩ trivial znJ rfl rfl rfl rfl ?_
 rintro x Bs ⟨tb,rfl,rfl⟩
 refine ⟨rfl,(kL3 rfl rfl rfl trivial),?_⟩
 refine TL.iaO rfl (fun _=>rfl) rfl zbu (by omega) rfl rfl (TL.stOF 5 (o:=0) (i:=k) (cur:=some gb) (u:=none) (by omega) rfl rfl rfl rfl (by omega) (hgb) ⟨rfl,rfl⟩ rfl zf3 rfl rfl (kL3 rfl rfl rfl trivial) (TL.iaO rfl (fun _=>rfl) rfl zcg (by omega) rfl rfl (TL.stOF 4 (o:=0) (i:=k) (cur:=bs[k]!) (u:=tb) (by omega) rfl rfl rfl rfl (by omega) (rfl) ⟨rfl,rfl⟩ rfl znC rfl rfl (kL3 rfl rfl rfl trivial) (TL.done (TQ.then (TC.exit (TQ.thenExit (TQ.blockOut rfl ?_))))))))
 refine TQ.thenExit (TQ.blockHere (TQ.then ?_))
 first | (refine TC.bigC 6 11 k (zau 130 157 189 3 l (bs.setIfInBounds k tb) (setT ts k (take0 l (fn k).u (fn k).v ((k+1:Nat):Int)))) rfl rfl (by decide) (zaA (n:=nn) (by omega)).1 (zaA (n:=nn) (by omega)).2 ?_; refine TC.conseq 3 (B:=zar ab mb 140 71 (σ8)) rfl (fun h hh=>zaK hh) ?_; refine TC.bigC 7 10 k (zaG 138 l (gos.setIfInBounds k none) (setD gd k #[])) rfl rfl (by decide) (fun x _=>(zai (n:=nn) (d:=#[]) (b:=none) (show k<gos.size by omega)).2.1 rfl x trivial) (zai (n:=nn) (d:=#[]) (b:=none) (show k<gos.size by omega)).2.2 ?_) | (refine TC.bigC 6 8 k (zau 130 157 189 3 l (bs) (ts)) rfl rfl (by decide) (fun x h=>h) (fun j hj hne x h=>by unfold zbq at h; rwa [if_neg hne] at h) ?_; refine TC.conseq 3 (B:=zar ab mb 140 71 (σ8)) rfl (fun h hh=>zaK hh) ?_; refine TC.bigC 7 {gv} k (zaG 138 l (gos.setIfInBounds k (some gb)) (setD gd k (ts k).held)) rfl rfl (by decide) ((zai (n:=nn) (d:=(ts k).held) (b:=some gb) (show k<gos.size by omega)).1 gb rfl) (zai (n:=nn) (d:=(ts k).held) (b:=some gb) (show k<gos.size by omega)).2.2 ?_) | (refine TC.bigC 6 {tk9} k (zau 130 157 189 3 l (bs) (ts9)) rfl rfl (by decide) (fun x h=>h) (fun j hj hne x h=>by unfold zbq at h; rwa [if_neg hne] at h) ?_) | skip
 refine TC.region (TL.add (((i+1:Nat):Int)) rfl rfl (wrN (by omega)) rfl rfl (xmi rfl (TL.done (TQ.roundK ((i+1,σ8,setT ts k (take0 l (fn k).u (fn k).v ((k+1:Nat):Int)),bs.setIfInBounds k tb,gos.setIfInBounds k none,setD gd k #[])) ⟨⟨(show i+1≤qn by omega),hP9.mono (by omega),hK8,(show (bs.setIfInBounds k tb).size=nn by simp; omega)⟩,(show qn - (i+1)<qn - i by omega)⟩ ⟨rfl,trivial⟩ ⟨rfl,rfl,rfl,rfl,rfl,trivial⟩ (kE4 rfl rfl rfl rfl trivial) (kL3 rfl rfl rfl trivial)))))
 refine TL.done (TQ.then (TC.condF rfl (TC.skip (TQ.then (TC.draw [(0,true),(1,true),(2,true),(3,true),(4,true),(5,true),(6,true),(7,true),(8,true),(9,true),(10,true),(11,false)] [2,5] fc_m (by kernel_rfl) (xmp rfl (xN0 rfl (xf 15 zbe rfl ?_))))))))
 refine xlv 2 zeE rfl rfl (xmi rfl (TL.iaO rfl (fun _=>rfl) rfl zbu (by omega) rfl rfl (TL.ldRS 5 (.pointer (some ⟨gb,0,none⟩)) rfl rfl (zbM (by omega)) (by omega) ((by rw [hgb]; rfl)) zf3 rfl rfl (xmp rfl (xN0 rfl (xf 3 zcQ rfl (xlp 2 zf4 rfl rfl ?_)))))))
 have hd0:0<(gd k).size:=Nat.pos_of_ne_zero (of_decide_eq_false (by assumption))
 have hP9:=(hP.give hl hkn hgb hd0).1
 obtain ⟨hK9,hcnt⟩:=hP.giveK (c:=n0) hl hK8 hkn hgb hd0
 refine TL.callD [10,3] [10,3] (zk6 hl hV.sz) ⟨rfl,rfl,trivial⟩ ⟨rfl,rfl,trivial⟩ znL rfl rfl rfl rfl rfl (kL2 rfl rfl trivial) (TL.done (TQ.inBlock (TQ.then (TC.seq ?_))))
 first | (refine TC.bigC 6 8 k (zau 130 157 189 3 l (bs) (setT ts k t9)) rfl rfl (by decide) (zeh (b:=bs) (n:=nn) (by omega)).1 (zeh (b:=bs) (n:=nn) (by omega)).2 ?_; refine TC.bigC 7 10 k (zaG 138 l gos gd) rfl rfl (by decide) (fun x h=>h) (fun j hj hne x h=>by unfold zbq at h; rwa [if_neg hne] at h) ?_; generalize hq_ts9:setT ts k t9=ts9 at hP9 hK9 ⊢; generalize hq_gd9:gd=gd9 at hP9 hK9 ⊢) | (refine TC.bigC 6 8 k (zau 130 157 189 3 l (bs) (ts)) rfl rfl (by decide) (fun x h=>h) (fun j hj hne x h=>by unfold zbq at h; rwa [if_neg hne] at h) ?_; refine TC.bigC 7 10 k (zaG 138 l gos (setD gd k ((gd k).extract 1 (gd k).size))) rfl rfl (by decide) (zeo (n:=nn) hgb).1 (zeo (n:=nn) hgb).2 ?_; generalize hq_gd9:setD gd k ((gd k).extract 1 (gd k).size)=gd9 at hP9 hK9 ⊢; generalize hq_σ9:zfH l σ8 (gd k)=σ9 at hP9 hK9 ⊢; generalize hq_ts9:ts=ts9 at hP9 hK9 ⊢)
 refine TC.region (xmp rfl (xN0 rfl (xf 3 zcQ rfl (xlp 2 zf4 rfl rfl (TL.callD [3] [3] zeX ⟨rfl,trivial⟩ ⟨rfl,trivial⟩ znK rfl rfl rfl rfl rfl trivial (TL.alloc 12 (cs:=#[.int .i64 0,.int .i64 0,.int .i64 0,.int .i64 0,.int .i64 0]) zk9 rfl rfl rfl (fun _=>trivial) (fun bk12=>(TL.stW 12 5 [_,_,_,_,_] rfl rfl rfl rfl rfl rfl zeq rfl rfl trivial (dS ?_)))))))))
 refine TC.seq (TC.conseq 3 (B:=zar ab mb 140 71 (σ9)) rfl (fun h hh=>zaK hh) (TC.region (xf 0 zcP rfl (xli 12 zae rfl rfl (xf 1 zcO rfl (xli 12 zae rfl rfl (TL.add _ rfl rfl (rfl) rfl rfl (xf 2 zcN rfl ?_))))))))
 refine xli 12 zae rfl rfl (TL.add _ rfl rfl (rfl) rfl rfl (xf 3 zch rfl (xli 12 zae rfl rfl (TL.add _ rfl rfl (rfl) rfl rfl (xf 0 zcP rfl (xli 9 zae rfl rfl (xf 1 zcO rfl (xli 9 zae rfl rfl ?_))))))))
 refine TL.add _ rfl rfl (rfl) rfl rfl (xf 2 zcN rfl (xli 9 zae rfl rfl (TL.add _ rfl rfl (rfl) rfl rfl (xf 3 zch rfl (xli 9 zae rfl rfl (TL.add _ rfl rfl (rfl) rfl rfl (TL.add _ rfl rfl (rfl) rfl rfl (TL.neqF rfl rfl (fun h=>h hcnt) rfl rfl ?_))))))))
 refine xmf rfl (xmp rfl (TL.callD [2,3,4,5,6] [2,3,4,5,6] (zhS hl (by omega) (by omega) hP9) ⟨rfl,trivial⟩ ⟨rfl,rfl,rfl,rfl,rfl,trivial⟩ zqs rfl rfl rfl rfl rfl trivial (xnt rfl (xpF rfl (TL.done (TQ.then (TC.condF rfl (TC.skip ?_))))))))
 refine TQ.then (TC.seq (TC.bigO 6 13 k rfl (by omega) (by decide) (TC.region (xmp rfl (TL.callD [13] [13] zgr ⟨rfl,trivial⟩ ⟨rfl,trivial⟩ zdz rfl rfl rfl rfl rfl trivial (TL.cases rfl (fun q6=>?_) (fun q6=>?_)))))))
 refine xmt rfl (xmp rfl (xN0 rfl (xf 15 zbe rfl (xlv 2 zeE rfl rfl (xmi rfl (TL.iaO rfl (fun _=>rfl) rfl zbu (by omega) rfl rfl (TL.ldRS 5 (.pointer (poA gos[k]!)) rfl rfl (zbM (by omega)) (by omega) ((zfp _)) zf3 rfl rfl (TL.nilP _ rfl rfl zjd rfl rfl rfl ?_))))))))
 refine TL.cases rfl (fun q7=>?_) (fun q7=>?_)
 refine xpT rfl (TL.done (TQ.then (TC.condT rfl (TC.seq (TC.draw [(0,true),(1,true),(2,true),(3,true),(4,true),(5,true),(6,true),(8,true),(9,true),(10,true),(11,true),(12,true),(13,true),(14,true),(7,false),(15,false),(16,true),(17,true)] [0,1] fc_m (by kernel_rfl) (xmp rfl (xf 5 zbA rfl (xls 1 zdZ rfl rfl ?_))))))))
 refine xmi rfl (TL.iaO rfl hna rfl zaL (by omega) rfl rfl (xf 0 zbj rfl (TL.ldRF 0 (.int _ _) rfl rfl hAn (by omega) (zer _).1 rfl zae rfl rfl (xmp rfl (xf 5 zbA rfl (xls 1 zdZ rfl rfl (xmi rfl (TL.iaO rfl hna rfl zaL (by omega) rfl rfl ?_))))))))
 refine xf 1 zbi rfl (TL.ldRF 0 (.int _ _) rfl rfl hAn (by omega) (zer _).1 rfl zae rfl rfl (TL.callD [2,3] [2,3] (zd6 hl (hEn k hkn).u hK9) ⟨rfl,rfl,trivial⟩ ⟨rfl,rfl,trivial⟩ zjf rfl rfl rfl rfl rfl (kL2 rfl rfl trivial) (TL.callD [2,3] [2,3] (zd6 hl (hEn k hkn).v hK9) ⟨rfl,rfl,trivial⟩ ⟨rfl,rfl,trivial⟩ zjf rfl rfl rfl rfl rfl (kL2 rfl rfl trivial) (xai rfl (xai rfl (dS ?_))))))
 have hg9:gos[k]! =none:=zsI (by assumption)
 have h49:(ts9 k).at_=4:=of_decide_eq_true (by assumption)
 have hT4:=(hP9.tk k hkn hg9).held4 h49
 have hth9:=hP9.th k hkn
 have hr9:(ts9 k).roots=zaQ (rt (l.vertex 0 (fn k).u)) (rt (l.vertex 0 (fn k).v)):=by rw [hT4.1,hT4.2.2,hth9.2.1,hth9.2.2]
 refine TC.region (xmp rfl (TL.call [13] [13,14] (zeY (hP9.w k hkn).1) ⟨rfl,trivial⟩ ⟨rfl,trivial⟩ zlg rfl rfl rfl rfl ?_))
 rintro x Bs ⟨_,rfl⟩
 refine ⟨rfl,trivial,?_⟩
 rw [hr9]
 refine TL.rowS 14 rfl (fun a5 b5 o5 c5 hv5 hc5 ha5=>⟨trivial,?_⟩)
 cases hv5
 refine xas rfl (dA (xms rfl (xz zag rfl (TL.lssF rfl rfl (by rw [zbc]; split<;>decide) rfl rfl (xmf rfl (xms rfl (TL.iaO (i:=0) rfl ha5 rfl zag (by first | (rw [zbc]; split<;>decide) | (rw [(zdj (by assumption)).2]; decide)) rfl rfl (TL.ldRS 14 (.int _ _) rfl rfl zcV (by first | (rw [zbc]; split<;>decide) | (rw [(zdj (by assumption)).2]; decide)) (rfl) zae rfl rfl ?_))))))))
 refine xmi rfl (xmi rfl (TL.min2 rfl rfl rfl rfl (TL.neqF rfl rfl (fun h=>h zmi) rfl rfl (xpF rfl (xmf rfl (xms rfl (xz zag rfl (xmi rfl ?_))))))))
 refine xmi rfl (TL.callD [] [] zg9 ⟨rfl,rfl,trivial⟩ trivial zqr rfl rfl rfl rfl rfl trivial (TL.add _ rfl rfl (wr64 (by split<;>omega)) rfl rfl (TL.neqF rfl rfl (fun h=>h zkz) rfl rfl (xpF rfl (xmf rfl (xmi rfl (xmi rfl (TL.neq rfl rfl rfl rfl (fun q8=>?_) (fun q8=>?_)))))))))
 refine xmt rfl (xms rfl (TL.iaO (i:=1) rfl ha5 rfl zag (by rw [(zdj (by assumption)).2]; decide) rfl rfl (TL.ldRS 14 (.int _ _) rfl rfl zcV (by first | (rw [zbc]; split<;>decide) | (rw [(zdj (by assumption)).2]; decide)) (rfl) zae rfl rfl (xmi rfl (xmi rfl (TL.max2 rfl rfl rfl rfl (TL.neqF rfl rfl (fun h=>h (zdj (by assumption)).1) rfl rfl (xpG rfl ?_))))))))
 refine xpF rfl (TL.done (TQ.then (TC.condF rfl (TC.skip (TQ.inBlock (TQ.then ?_))))))
 first | (refine TC.bigC 6 {tk2} k (zau 130 157 189 3 l (bs.setIfInBounds k tb) (setT ts k (take0 l (fn k).u (fn k).v ((k+1:Nat):Int)))) rfl rfl (by decide) (zaA (n:=nn) (by omega)).1 (zaA (n:=nn) (by omega)).2 ?_; refine TC.conseq 3 (B:=zar ab mb 140 71 (σ8)) rfl (fun h hh=>zaK hh) ?_; refine TC.bigC 7 10 k (zaG 138 l (gos.setIfInBounds k none) (setD gd k #[])) rfl rfl (by decide) (fun x _=>(zai (n:=nn) (d:=#[]) (b:=none) (show k<gos.size by omega)).2.1 rfl x trivial) (zai (n:=nn) (d:=#[]) (b:=none) (show k<gos.size by omega)).2.2 ?_) | (refine TC.bigC 6 8 k (zau 130 157 189 3 l (bs) (ts)) rfl rfl (by decide) (fun x h=>h) (fun j hj hne x h=>by unfold zbq at h; rwa [if_neg hne] at h) ?_; refine TC.conseq 3 (B:=zar ab mb 140 71 (σ8)) rfl (fun h hh=>zaK hh) ?_; refine TC.bigC 7 {gv} k (zaG 138 l (gos.setIfInBounds k (some gb)) (setD gd k (ts k).held)) rfl rfl (by decide) ((zai (n:=nn) (d:=(ts k).held) (b:=some gb) (show k<gos.size by omega)).1 gb rfl) (zai (n:=nn) (d:=(ts k).held) (b:=some gb) (show k<gos.size by omega)).2.2 ?_) | (refine TC.bigC 6 13 k (zau 130 157 189 3 l (bs) (ts9)) rfl rfl (by decide) (fun x h=>h) (fun j hj hne x h=>by unfold zbq at h; rwa [if_neg hne] at h) ?_) | skip
 refine TC.region (TL.add (((i+1:Nat):Int)) rfl rfl (wrN (by omega)) rfl rfl (xmi rfl (TL.done (TQ.roundK ((i+1,σ9,ts9,bs,gos,gd9)) ⟨⟨(show i+1≤qn by omega),hP9.mono (by omega),hK9,hbs⟩,(show qn - (i+1)<qn - i by omega)⟩ ⟨rfl,trivial⟩ ⟨rfl,rfl,rfl,rfl,rfl,trivial⟩ (kE4 rfl rfl rfl rfl trivial) (kL3 rfl rfl rfl trivial)))))
 refine xmf rfl (xo rfl (xo rfl (xo rfl (xo rfl (xo rfl (xo rfl (xo rfl (xpF rfl ?_))))))))
 refine xpF rfl (TL.done (TQ.then (TC.condF rfl (TC.skip (TQ.inBlock (TQ.then ?_))))))
 first | (refine TC.bigC 6 {tk2} k (zau 130 157 189 3 l (bs.setIfInBounds k tb) (setT ts k (take0 l (fn k).u (fn k).v ((k+1:Nat):Int)))) rfl rfl (by decide) (zaA (n:=nn) (by omega)).1 (zaA (n:=nn) (by omega)).2 ?_; refine TC.conseq 3 (B:=zar ab mb 140 71 (σ8)) rfl (fun h hh=>zaK hh) ?_; refine TC.bigC 7 10 k (zaG 138 l (gos.setIfInBounds k none) (setD gd k #[])) rfl rfl (by decide) (fun x _=>(zai (n:=nn) (d:=#[]) (b:=none) (show k<gos.size by omega)).2.1 rfl x trivial) (zai (n:=nn) (d:=#[]) (b:=none) (show k<gos.size by omega)).2.2 ?_) | (refine TC.bigC 6 8 k (zau 130 157 189 3 l (bs) (ts)) rfl rfl (by decide) (fun x h=>h) (fun j hj hne x h=>by unfold zbq at h; rwa [if_neg hne] at h) ?_; refine TC.conseq 3 (B:=zar ab mb 140 71 (σ8)) rfl (fun h hh=>zaK hh) ?_; refine TC.bigC 7 {gv} k (zaG 138 l (gos.setIfInBounds k (some gb)) (setD gd k (ts k).held)) rfl rfl (by decide) ((zai (n:=nn) (d:=(ts k).held) (b:=some gb) (show k<gos.size by omega)).1 gb rfl) (zai (n:=nn) (d:=(ts k).held) (b:=some gb) (show k<gos.size by omega)).2.2 ?_) | (refine TC.bigC 6 13 k (zau 130 157 189 3 l (bs) (ts9)) rfl rfl (by decide) (fun x h=>h) (fun j hj hne x h=>by unfold zbq at h; rwa [if_neg hne] at h) ?_) | skip
 refine TC.region (TL.add (((i+1:Nat):Int)) rfl rfl (wrN (by omega)) rfl rfl (xmi rfl (TL.done (TQ.roundK ((i+1,σ9,ts9,bs,gos,gd9)) ⟨⟨(show i+1≤qn by omega),hP9.mono (by omega),hK9,hbs⟩,(show qn - (i+1)<qn - i by omega)⟩ ⟨rfl,trivial⟩ ⟨rfl,rfl,rfl,rfl,rfl,trivial⟩ (kE4 rfl rfl rfl rfl trivial) (kL3 rfl rfl rfl trivial)))))
 refine xpG rfl (TL.done (TQ.then (TC.condF rfl (TC.skip (TQ.inBlock (TQ.then ?_))))))
 first | (refine TC.bigC 6 {tk2} k (zau 130 157 189 3 l (bs.setIfInBounds k tb) (setT ts k (take0 l (fn k).u (fn k).v ((k+1:Nat):Int)))) rfl rfl (by decide) (zaA (n:=nn) (by omega)).1 (zaA (n:=nn) (by omega)).2 ?_; refine TC.conseq 3 (B:=zar ab mb 140 71 (σ8)) rfl (fun h hh=>zaK hh) ?_; refine TC.bigC 7 10 k (zaG 138 l (gos.setIfInBounds k none) (setD gd k #[])) rfl rfl (by decide) (fun x _=>(zai (n:=nn) (d:=#[]) (b:=none) (show k<gos.size by omega)).2.1 rfl x trivial) (zai (n:=nn) (d:=#[]) (b:=none) (show k<gos.size by omega)).2.2 ?_) | (refine TC.bigC 6 8 k (zau 130 157 189 3 l (bs) (ts)) rfl rfl (by decide) (fun x h=>h) (fun j hj hne x h=>by unfold zbq at h; rwa [if_neg hne] at h) ?_; refine TC.conseq 3 (B:=zar ab mb 140 71 (σ8)) rfl (fun h hh=>zaK hh) ?_; refine TC.bigC 7 {gv} k (zaG 138 l (gos.setIfInBounds k (some gb)) (setD gd k (ts k).held)) rfl rfl (by decide) ((zai (n:=nn) (d:=(ts k).held) (b:=some gb) (show k<gos.size by omega)).1 gb rfl) (zai (n:=nn) (d:=(ts k).held) (b:=some gb) (show k<gos.size by omega)).2.2 ?_) | (refine TC.bigC 6 13 k (zau 130 157 189 3 l (bs) (ts9)) rfl rfl (by decide) (fun x h=>h) (fun j hj hne x h=>by unfold zbq at h; rwa [if_neg hne] at h) ?_) | skip
 refine TC.region (TL.add (((i+1:Nat):Int)) rfl rfl (wrN (by omega)) rfl rfl (xmi rfl (TL.done (TQ.roundK ((i+1,σ9,ts9,bs,gos,gd9)) ⟨⟨(show i+1≤qn by omega),hP9.mono (by omega),hK9,hbs⟩,(show qn - (i+1)<qn - i by omega)⟩ ⟨rfl,trivial⟩ ⟨rfl,rfl,rfl,rfl,rfl,trivial⟩ (kE4 rfl rfl rfl rfl trivial) (kL3 rfl rfl rfl trivial)))))
 refine xmf rfl (xo rfl (xo rfl (xo rfl (xo rfl (xo rfl (xo rfl (xo rfl (xo rfl ?_))))))))
 refine xpF rfl (TL.done (TQ.then (TC.condF rfl (TC.skip (TQ.inBlock (TQ.then ?_))))))
 first | (refine TC.bigC 6 {tk2} k (zau 130 157 189 3 l (bs.setIfInBounds k tb) (setT ts k (take0 l (fn k).u (fn k).v ((k+1:Nat):Int)))) rfl rfl (by decide) (zaA (n:=nn) (by omega)).1 (zaA (n:=nn) (by omega)).2 ?_; refine TC.conseq 3 (B:=zar ab mb 140 71 (σ8)) rfl (fun h hh=>zaK hh) ?_; refine TC.bigC 7 10 k (zaG 138 l (gos.setIfInBounds k none) (setD gd k #[])) rfl rfl (by decide) (fun x _=>(zai (n:=nn) (d:=#[]) (b:=none) (show k<gos.size by omega)).2.1 rfl x trivial) (zai (n:=nn) (d:=#[]) (b:=none) (show k<gos.size by omega)).2.2 ?_) | (refine TC.bigC 6 8 k (zau 130 157 189 3 l (bs) (ts)) rfl rfl (by decide) (fun x h=>h) (fun j hj hne x h=>by unfold zbq at h; rwa [if_neg hne] at h) ?_; refine TC.conseq 3 (B:=zar ab mb 140 71 (σ8)) rfl (fun h hh=>zaK hh) ?_; refine TC.bigC 7 {gv} k (zaG 138 l (gos.setIfInBounds k (some gb)) (setD gd k (ts k).held)) rfl rfl (by decide) ((zai (n:=nn) (d:=(ts k).held) (b:=some gb) (show k<gos.size by omega)).1 gb rfl) (zai (n:=nn) (d:=(ts k).held) (b:=some gb) (show k<gos.size by omega)).2.2 ?_) | (refine TC.bigC 6 13 k (zau 130 157 189 3 l (bs) (ts9)) rfl rfl (by decide) (fun x h=>h) (fun j hj hne x h=>by unfold zbq at h; rwa [if_neg hne] at h) ?_) | skip
 refine TC.region (TL.add (((i+1:Nat):Int)) rfl rfl (wrN (by omega)) rfl rfl (xmi rfl (TL.done (TQ.roundK ((i+1,σ9,ts9,bs,gos,gd9)) ⟨⟨(show i+1≤qn by omega),hP9.mono (by omega),hK9,hbs⟩,(show qn - (i+1)<qn - i by omega)⟩ ⟨rfl,trivial⟩ ⟨rfl,rfl,rfl,rfl,rfl,trivial⟩ (kE4 rfl rfl rfl rfl trivial) (kL3 rfl rfl rfl trivial)))))
 refine xaf rfl (TL.done (TQ.then (TC.condF rfl (TC.seq ?_))))
 have hgn:gos[k]! =none:=zkP (by assumption)
 have hT9:=hP.tk k hkn hgn
 refine TC.bigO 7 15 k rfl (by omega) (by decide) (TC.region (xmp rfl (TL.callD [8] [8] zgr ⟨rfl,trivial⟩ ⟨rfl,trivial⟩ zdz rfl rfl rfl rfl rfl trivial (TL.cases rfl (fun q5=>?_) (fun q5=>?_)))))
 refine xat rfl (TL.done (TQ.then (TC.condT rfl (TC.seq (TC.draw [(0,true),(1,true),(2,true),(3,true),(4,true),(5,true),(6,true),(7,true),(8,false),(9,false),(10,true),(11,false)] [1,2] fc_m (by kernel_rfl) (xmp rfl (xN0 rfl (xf 15 zbe rfl ?_))))))))
 refine xlv 2 zeE rfl rfl (xmi rfl (xf 0 zbk rfl (xL3 1 zaa rfl rfl (xmp rfl ?_))))
 have h48:(ts k).at_=4:=of_decide_eq_true (by assumption)
 refine TL.call [8] [8,16] (zeY (hP.w k hkn).1) ⟨rfl,trivial⟩ ⟨rfl,trivial⟩ zlg rfl rfl rfl rfl ?_
 rintro x Bs ⟨_,rfl⟩
 refine ⟨rfl,(kL2 rfl rfl trivial),?_⟩
 rw [show (ts k).roots=(ts k).held from (hT9.held4 h48).1]
 refine TL.rowS 16 rfl (fun a7 b7 o7 c7 hv7 hc7 ha7=>⟨(kL2 rfl rfl trivial),?_⟩)
 cases hv7
 refine TL.call [16] [16,17] (znl (l:=l) (d:=(ts k).held) ha7 (hP.w k hkn).1.2) ⟨rfl,rfl,trivial⟩ ⟨rfl,trivial⟩ zqt rfl rfl rfl rfl ?_
 rintro x Bs ⟨gb,rfl,rfl⟩
 refine ⟨rfl,(kL2 rfl rfl trivial),?_⟩
 have hP9:=hP.toGive (b:=gb) hl hkn hgn h48
 refine TL.iaO rfl (fun _=>rfl) rfl zbu (by omega) rfl rfl (TL.stOF 5 (o:=0) (i:=k) (cur:=none) (u:=some gb) (by omega) rfl rfl rfl rfl (by omega) (hgn) ⟨rfl,rfl⟩ rfl zf3 rfl rfl (kL2 rfl rfl trivial) (TL.done (TQ.then (TC.exit (TQ.blockOut rfl (TQ.thenExit (TQ.blockHere (TQ.then ?_))))))))
 first | (refine TC.bigC 6 {tk2} k (zau 130 157 189 3 l (bs.setIfInBounds k tb) (setT ts k (take0 l (fn k).u (fn k).v ((k+1:Nat):Int)))) rfl rfl (by decide) (zaA (n:=nn) (by omega)).1 (zaA (n:=nn) (by omega)).2 ?_; refine TC.conseq 3 (B:=zar ab mb 140 71 (σ8)) rfl (fun h hh=>zaK hh) ?_; refine TC.bigC 7 15 k (zaG 138 l (gos.setIfInBounds k none) (setD gd k #[])) rfl rfl (by decide) (fun x _=>(zai (n:=nn) (d:=#[]) (b:=none) (show k<gos.size by omega)).2.1 rfl x trivial) (zai (n:=nn) (d:=#[]) (b:=none) (show k<gos.size by omega)).2.2 ?_) | (refine TC.bigC 6 8 k (zau 130 157 189 3 l (bs) (ts)) rfl rfl (by decide) (fun x h=>h) (fun j hj hne x h=>by unfold zbq at h; rwa [if_neg hne] at h) ?_; refine TC.conseq 3 (B:=zar ab mb 140 71 (σ8)) rfl (fun h hh=>zaK hh) ?_; refine TC.bigC 7 17 k (zaG 138 l (gos.setIfInBounds k (some gb)) (setD gd k (ts k).held)) rfl rfl (by decide) ((zai (n:=nn) (d:=(ts k).held) (b:=some gb) (show k<gos.size by omega)).1 gb rfl) (zai (n:=nn) (d:=(ts k).held) (b:=some gb) (show k<gos.size by omega)).2.2 ?_) | (refine TC.bigC 6 {tk9} k (zau 130 157 189 3 l (bs) (ts9)) rfl rfl (by decide) (fun x h=>h) (fun j hj hne x h=>by unfold zbq at h; rwa [if_neg hne] at h) ?_) | skip
 refine TC.region (TL.add (((i+1:Nat):Int)) rfl rfl (wrN (by omega)) rfl rfl (xmi rfl (TL.done (TQ.roundK ((i+1,σ8,ts,bs,gos.setIfInBounds k (some gb),setD gd k (ts k).held)) ⟨⟨(show i+1≤qn by omega),hP9.mono (by omega),hK8,hbs⟩,(show qn - (i+1)<qn - i by omega)⟩ ⟨rfl,trivial⟩ ⟨rfl,rfl,rfl,rfl,rfl,trivial⟩ (kE4 rfl rfl rfl rfl trivial) (kL3 rfl rfl rfl trivial)))))
 refine xaf rfl (TL.done (TQ.then (TC.condF rfl (TC.region (xmp rfl (xmp rfl (xN0 rfl (xf 3 zcQ rfl ?_))))))))
 refine xlp 2 zf4 rfl rfl ?_
 have h4n:(ts k).at_≠4:=of_decide_eq_false (by assumption)
 obtain ⟨⟨t9,σ9⟩,e9⟩:∃ q,(ts k).stp l σ8=q:=⟨_,rfl⟩
 have hP9:=hP.step hl hkn hgn (by omega) e9
 have hA9:=(TInv.own hl hP.seen hP.sz hT9 (by have:=(hP.w k hkn).2; omega)).1
 rw [e9] at hA9
 have hK9:=hA9.lk0 hl hK8
 have hcnt:=zmr (c:=n0) hl hP.seen hP.sz hT9 h4n
 refine TL.callD [8,3] [8,3] (zkB hl (TInv.takeOk hl hP.seen hP.sz hT9 (hP.w k hkn).1.1)) ⟨rfl,rfl,trivial⟩ ⟨rfl,rfl,trivial⟩ zqu rfl rfl rfl rfl rfl trivial ?_
 rw [e9]
 refine TL.done (TQ.inBlock (TQ.then (TC.seq ?_)))
 first | (refine TC.bigC 6 8 k (zau 130 157 189 3 l (bs) (setT ts k t9)) rfl rfl (by decide) (zeh (b:=bs) (n:=nn) (by omega)).1 (zeh (b:=bs) (n:=nn) (by omega)).2 ?_; refine TC.bigC 7 15 k (zaG 138 l gos gd) rfl rfl (by decide) (fun x h=>h) (fun j hj hne x h=>by unfold zbq at h; rwa [if_neg hne] at h) ?_; generalize hq_ts9:setT ts k t9=ts9 at hP9 hK9 ⊢; generalize hq_gd9:gd=gd9 at hP9 hK9 ⊢) | (refine TC.bigC 6 8 k (zau 130 157 189 3 l (bs) (ts)) rfl rfl (by decide) (fun x h=>h) (fun j hj hne x h=>by unfold zbq at h; rwa [if_neg hne] at h) ?_; refine TC.bigC 7 15 k (zaG 138 l gos (setD gd k ((gd k).extract 1 (gd k).size))) rfl rfl (by decide) (zeo (n:=nn) hgb).1 (zeo (n:=nn) hgb).2 ?_; generalize hq_gd9:setD gd k ((gd k).extract 1 (gd k).size)=gd9 at hP9 hK9 ⊢; generalize hq_σ9:zfH l σ8 (gd k)=σ9 at hP9 hK9 ⊢; generalize hq_ts9:ts=ts9 at hP9 hK9 ⊢)
 refine TC.region (xmp rfl (xN0 rfl (xf 3 zcQ rfl (xlp 2 zf4 rfl rfl (TL.callD [3] [3] zeX ⟨rfl,trivial⟩ ⟨rfl,trivial⟩ znK rfl rfl rfl rfl rfl trivial (TL.alloc 18 (cs:=#[.int .i64 0,.int .i64 0,.int .i64 0,.int .i64 0,.int .i64 0]) zk9 rfl rfl rfl (fun _=>trivial) (fun bk18=>(TL.stW 18 5 [_,_,_,_,_] rfl rfl rfl rfl rfl rfl zeq rfl rfl trivial (dS ?_)))))))))
 refine TC.seq (TC.conseq 3 (B:=zar ab mb 140 71 (σ9)) rfl (fun h hh=>zaK hh) (TC.region (xf 0 zcP rfl (xli 18 zae rfl rfl (xf 1 zcO rfl (xli 18 zae rfl rfl (TL.add _ rfl rfl (rfl) rfl rfl (xf 2 zcN rfl ?_))))))))
 refine xli 18 zae rfl rfl (TL.add _ rfl rfl (rfl) rfl rfl (xf 3 zch rfl (xli 18 zae rfl rfl (TL.add _ rfl rfl (rfl) rfl rfl (xf 0 zcP rfl (xli 9 zae rfl rfl (xf 1 zcO rfl (xli 9 zae rfl rfl ?_))))))))
 refine TL.add _ rfl rfl (rfl) rfl rfl (xf 2 zcN rfl (xli 9 zae rfl rfl (TL.add _ rfl rfl (rfl) rfl rfl (xf 3 zch rfl (xli 9 zae rfl rfl (TL.add _ rfl rfl (rfl) rfl rfl (TL.add _ rfl rfl (rfl) rfl rfl (TL.neqF rfl rfl (fun h=>h hcnt) rfl rfl ?_))))))))
 refine xmf rfl (xmp rfl (TL.callD [2,3,4,5,6] [2,3,4,5,6] (zhS hl (by omega) (by omega) hP9) ⟨rfl,trivial⟩ ⟨rfl,rfl,rfl,rfl,rfl,trivial⟩ zqs rfl rfl rfl rfl rfl trivial (xnt rfl (xpF rfl (TL.done (TQ.then (TC.condF rfl (TC.skip ?_))))))))
 refine TQ.then (TC.seq (TC.bigO 6 19 k rfl (by omega) (by decide) (TC.region (xmp rfl (TL.callD [19] [19] zgr ⟨rfl,trivial⟩ ⟨rfl,trivial⟩ zdz rfl rfl rfl rfl rfl trivial (TL.cases rfl (fun q6=>?_) (fun q6=>?_)))))))
 refine xmt rfl (xmp rfl (xN0 rfl (xf 15 zbe rfl (xlv 2 zeE rfl rfl (xmi rfl (TL.iaO rfl (fun _=>rfl) rfl zbu (by omega) rfl rfl (TL.ldRS 5 (.pointer (poA gos[k]!)) rfl rfl (zbM (by omega)) (by omega) ((zfp _)) zf3 rfl rfl (TL.nilP _ rfl rfl zjd rfl rfl rfl ?_))))))))
 refine TL.cases rfl (fun q7=>?_) (fun q7=>?_)
 refine xpT rfl (TL.done (TQ.then (TC.condT rfl (TC.seq (TC.draw [(0,true),(1,true),(2,true),(3,true),(4,true),(5,true),(6,true),(8,true),(9,true),(10,true),(11,true),(12,true),(13,true),(14,true),(7,false),(15,false),(16,true),(17,true)] [0,1] fc_m (by kernel_rfl) (xmp rfl (xf 5 zbA rfl (xls 1 zdZ rfl rfl ?_))))))))
 refine xmi rfl (TL.iaO rfl hna rfl zaL (by omega) rfl rfl (xf 0 zbj rfl (TL.ldRF 0 (.int _ _) rfl rfl hAn (by omega) (zer _).1 rfl zae rfl rfl (xmp rfl (xf 5 zbA rfl (xls 1 zdZ rfl rfl (xmi rfl (TL.iaO rfl hna rfl zaL (by omega) rfl rfl ?_))))))))
 refine xf 1 zbi rfl (TL.ldRF 0 (.int _ _) rfl rfl hAn (by omega) (zer _).1 rfl zae rfl rfl (TL.callD [2,3] [2,3] (zd6 hl (hEn k hkn).u hK9) ⟨rfl,rfl,trivial⟩ ⟨rfl,rfl,trivial⟩ zjf rfl rfl rfl rfl rfl (kL2 rfl rfl trivial) (TL.callD [2,3] [2,3] (zd6 hl (hEn k hkn).v hK9) ⟨rfl,rfl,trivial⟩ ⟨rfl,rfl,trivial⟩ zjf rfl rfl rfl rfl rfl (kL2 rfl rfl trivial) (xai rfl (xai rfl (dS ?_))))))
 have hg9:gos[k]! =none:=zsI (by assumption)
 have h49:(ts9 k).at_=4:=of_decide_eq_true (by assumption)
 have hT4:=(hP9.tk k hkn hg9).held4 h49
 have hth9:=hP9.th k hkn
 have hr9:(ts9 k).roots=zaQ (rt (l.vertex 0 (fn k).u)) (rt (l.vertex 0 (fn k).v)):=by rw [hT4.1,hT4.2.2,hth9.2.1,hth9.2.2]
 refine TC.region (xmp rfl (TL.call [19] [19,20] (zeY (hP9.w k hkn).1) ⟨rfl,trivial⟩ ⟨rfl,trivial⟩ zlg rfl rfl rfl rfl ?_))
 rintro x Bs ⟨_,rfl⟩
 refine ⟨rfl,trivial,?_⟩
 rw [hr9]
 refine TL.rowS 20 rfl (fun a5 b5 o5 c5 hv5 hc5 ha5=>⟨trivial,?_⟩)
 cases hv5
 refine xas rfl (dA (xms rfl (xz zag rfl (TL.lssF rfl rfl (by rw [zbc]; split<;>decide) rfl rfl (xmf rfl (xms rfl (TL.iaO (i:=0) rfl ha5 rfl zag (by first | (rw [zbc]; split<;>decide) | (rw [(zdj (by assumption)).2]; decide)) rfl rfl (TL.ldRS 20 (.int _ _) rfl rfl zcV (by first | (rw [zbc]; split<;>decide) | (rw [(zdj (by assumption)).2]; decide)) (rfl) zae rfl rfl ?_))))))))
 refine xmi rfl (xmi rfl (TL.min2 rfl rfl rfl rfl (TL.neqF rfl rfl (fun h=>h zmi) rfl rfl (xpF rfl (xmf rfl (xms rfl (xz zag rfl (xmi rfl ?_))))))))
 refine xmi rfl (TL.callD [] [] zg9 ⟨rfl,rfl,trivial⟩ trivial zqr rfl rfl rfl rfl rfl trivial (TL.add _ rfl rfl (wr64 (by split<;>omega)) rfl rfl (TL.neqF rfl rfl (fun h=>h zkz) rfl rfl (xpF rfl (xmf rfl (xmi rfl (xmi rfl (TL.neq rfl rfl rfl rfl (fun q8=>?_) (fun q8=>?_)))))))))
 refine xmt rfl (xms rfl (TL.iaO (i:=1) rfl ha5 rfl zag (by rw [(zdj (by assumption)).2]; decide) rfl rfl (TL.ldRS 20 (.int _ _) rfl rfl zcV (by first | (rw [zbc]; split<;>decide) | (rw [(zdj (by assumption)).2]; decide)) (rfl) zae rfl rfl (xmi rfl (xmi rfl (TL.max2 rfl rfl rfl rfl (TL.neqF rfl rfl (fun h=>h (zdj (by assumption)).1) rfl rfl (xpG rfl ?_))))))))
 refine xpF rfl (TL.done (TQ.then (TC.condF rfl (TC.skip (TQ.inBlock (TQ.then ?_))))))
 first | (refine TC.bigC 6 {tk2} k (zau 130 157 189 3 l (bs.setIfInBounds k tb) (setT ts k (take0 l (fn k).u (fn k).v ((k+1:Nat):Int)))) rfl rfl (by decide) (zaA (n:=nn) (by omega)).1 (zaA (n:=nn) (by omega)).2 ?_; refine TC.conseq 3 (B:=zar ab mb 140 71 (σ8)) rfl (fun h hh=>zaK hh) ?_; refine TC.bigC 7 15 k (zaG 138 l (gos.setIfInBounds k none) (setD gd k #[])) rfl rfl (by decide) (fun x _=>(zai (n:=nn) (d:=#[]) (b:=none) (show k<gos.size by omega)).2.1 rfl x trivial) (zai (n:=nn) (d:=#[]) (b:=none) (show k<gos.size by omega)).2.2 ?_) | (refine TC.bigC 6 8 k (zau 130 157 189 3 l (bs) (ts)) rfl rfl (by decide) (fun x h=>h) (fun j hj hne x h=>by unfold zbq at h; rwa [if_neg hne] at h) ?_; refine TC.conseq 3 (B:=zar ab mb 140 71 (σ8)) rfl (fun h hh=>zaK hh) ?_; refine TC.bigC 7 {gv} k (zaG 138 l (gos.setIfInBounds k (some gb)) (setD gd k (ts k).held)) rfl rfl (by decide) ((zai (n:=nn) (d:=(ts k).held) (b:=some gb) (show k<gos.size by omega)).1 gb rfl) (zai (n:=nn) (d:=(ts k).held) (b:=some gb) (show k<gos.size by omega)).2.2 ?_) | (refine TC.bigC 6 19 k (zau 130 157 189 3 l (bs) (ts9)) rfl rfl (by decide) (fun x h=>h) (fun j hj hne x h=>by unfold zbq at h; rwa [if_neg hne] at h) ?_) | skip
 refine TC.region (TL.add (((i+1:Nat):Int)) rfl rfl (wrN (by omega)) rfl rfl (xmi rfl (TL.done (TQ.roundK ((i+1,σ9,ts9,bs,gos,gd9)) ⟨⟨(show i+1≤qn by omega),hP9.mono (by omega),hK9,hbs⟩,(show qn - (i+1)<qn - i by omega)⟩ ⟨rfl,trivial⟩ ⟨rfl,rfl,rfl,rfl,rfl,trivial⟩ (kE4 rfl rfl rfl rfl trivial) (kL3 rfl rfl rfl trivial)))))
 refine xmf rfl (xo rfl (xo rfl (xo rfl (xo rfl (xo rfl (xo rfl (xo rfl (xpF rfl ?_))))))))
 refine xpF rfl (TL.done (TQ.then (TC.condF rfl (TC.skip (TQ.inBlock (TQ.then ?_))))))
 first | (refine TC.bigC 6 {tk2} k (zau 130 157 189 3 l (bs.setIfInBounds k tb) (setT ts k (take0 l (fn k).u (fn k).v ((k+1:Nat):Int)))) rfl rfl (by decide) (zaA (n:=nn) (by omega)).1 (zaA (n:=nn) (by omega)).2 ?_; refine TC.conseq 3 (B:=zar ab mb 140 71 (σ8)) rfl (fun h hh=>zaK hh) ?_; refine TC.bigC 7 15 k (zaG 138 l (gos.setIfInBounds k none) (setD gd k #[])) rfl rfl (by decide) (fun x _=>(zai (n:=nn) (d:=#[]) (b:=none) (show k<gos.size by omega)).2.1 rfl x trivial) (zai (n:=nn) (d:=#[]) (b:=none) (show k<gos.size by omega)).2.2 ?_) | (refine TC.bigC 6 8 k (zau 130 157 189 3 l (bs) (ts)) rfl rfl (by decide) (fun x h=>h) (fun j hj hne x h=>by unfold zbq at h; rwa [if_neg hne] at h) ?_; refine TC.conseq 3 (B:=zar ab mb 140 71 (σ8)) rfl (fun h hh=>zaK hh) ?_; refine TC.bigC 7 {gv} k (zaG 138 l (gos.setIfInBounds k (some gb)) (setD gd k (ts k).held)) rfl rfl (by decide) ((zai (n:=nn) (d:=(ts k).held) (b:=some gb) (show k<gos.size by omega)).1 gb rfl) (zai (n:=nn) (d:=(ts k).held) (b:=some gb) (show k<gos.size by omega)).2.2 ?_) | (refine TC.bigC 6 19 k (zau 130 157 189 3 l (bs) (ts9)) rfl rfl (by decide) (fun x h=>h) (fun j hj hne x h=>by unfold zbq at h; rwa [if_neg hne] at h) ?_) | skip
 refine TC.region (TL.add (((i+1:Nat):Int)) rfl rfl (wrN (by omega)) rfl rfl (xmi rfl (TL.done (TQ.roundK ((i+1,σ9,ts9,bs,gos,gd9)) ⟨⟨(show i+1≤qn by omega),hP9.mono (by omega),hK9,hbs⟩,(show qn - (i+1)<qn - i by omega)⟩ ⟨rfl,trivial⟩ ⟨rfl,rfl,rfl,rfl,rfl,trivial⟩ (kE4 rfl rfl rfl rfl trivial) (kL3 rfl rfl rfl trivial)))))
 refine xpG rfl (TL.done (TQ.then (TC.condF rfl (TC.skip (TQ.inBlock (TQ.then ?_))))))
 first | (refine TC.bigC 6 {tk2} k (zau 130 157 189 3 l (bs.setIfInBounds k tb) (setT ts k (take0 l (fn k).u (fn k).v ((k+1:Nat):Int)))) rfl rfl (by decide) (zaA (n:=nn) (by omega)).1 (zaA (n:=nn) (by omega)).2 ?_; refine TC.conseq 3 (B:=zar ab mb 140 71 (σ8)) rfl (fun h hh=>zaK hh) ?_; refine TC.bigC 7 15 k (zaG 138 l (gos.setIfInBounds k none) (setD gd k #[])) rfl rfl (by decide) (fun x _=>(zai (n:=nn) (d:=#[]) (b:=none) (show k<gos.size by omega)).2.1 rfl x trivial) (zai (n:=nn) (d:=#[]) (b:=none) (show k<gos.size by omega)).2.2 ?_) | (refine TC.bigC 6 8 k (zau 130 157 189 3 l (bs) (ts)) rfl rfl (by decide) (fun x h=>h) (fun j hj hne x h=>by unfold zbq at h; rwa [if_neg hne] at h) ?_; refine TC.conseq 3 (B:=zar ab mb 140 71 (σ8)) rfl (fun h hh=>zaK hh) ?_; refine TC.bigC 7 {gv} k (zaG 138 l (gos.setIfInBounds k (some gb)) (setD gd k (ts k).held)) rfl rfl (by decide) ((zai (n:=nn) (d:=(ts k).held) (b:=some gb) (show k<gos.size by omega)).1 gb rfl) (zai (n:=nn) (d:=(ts k).held) (b:=some gb) (show k<gos.size by omega)).2.2 ?_) | (refine TC.bigC 6 19 k (zau 130 157 189 3 l (bs) (ts9)) rfl rfl (by decide) (fun x h=>h) (fun j hj hne x h=>by unfold zbq at h; rwa [if_neg hne] at h) ?_) | skip
 refine TC.region (TL.add (((i+1:Nat):Int)) rfl rfl (wrN (by omega)) rfl rfl (xmi rfl (TL.done (TQ.roundK ((i+1,σ9,ts9,bs,gos,gd9)) ⟨⟨(show i+1≤qn by omega),hP9.mono (by omega),hK9,hbs⟩,(show qn - (i+1)<qn - i by omega)⟩ ⟨rfl,trivial⟩ ⟨rfl,rfl,rfl,rfl,rfl,trivial⟩ (kE4 rfl rfl rfl rfl trivial) (kL3 rfl rfl rfl trivial)))))
 refine xmf rfl (xo rfl (xo rfl (xo rfl (xo rfl (xo rfl (xo rfl (xo rfl (xo rfl ?_))))))))
 refine xpF rfl (TL.done (TQ.then (TC.condF rfl (TC.skip (TQ.inBlock (TQ.then ?_))))))
 first | (refine TC.bigC 6 {tk2} k (zau 130 157 189 3 l (bs.setIfInBounds k tb) (setT ts k (take0 l (fn k).u (fn k).v ((k+1:Nat):Int)))) rfl rfl (by decide) (zaA (n:=nn) (by omega)).1 (zaA (n:=nn) (by omega)).2 ?_; refine TC.conseq 3 (B:=zar ab mb 140 71 (σ8)) rfl (fun h hh=>zaK hh) ?_; refine TC.bigC 7 15 k (zaG 138 l (gos.setIfInBounds k none) (setD gd k #[])) rfl rfl (by decide) (fun x _=>(zai (n:=nn) (d:=#[]) (b:=none) (show k<gos.size by omega)).2.1 rfl x trivial) (zai (n:=nn) (d:=#[]) (b:=none) (show k<gos.size by omega)).2.2 ?_) | (refine TC.bigC 6 8 k (zau 130 157 189 3 l (bs) (ts)) rfl rfl (by decide) (fun x h=>h) (fun j hj hne x h=>by unfold zbq at h; rwa [if_neg hne] at h) ?_; refine TC.conseq 3 (B:=zar ab mb 140 71 (σ8)) rfl (fun h hh=>zaK hh) ?_; refine TC.bigC 7 {gv} k (zaG 138 l (gos.setIfInBounds k (some gb)) (setD gd k (ts k).held)) rfl rfl (by decide) ((zai (n:=nn) (d:=(ts k).held) (b:=some gb) (show k<gos.size by omega)).1 gb rfl) (zai (n:=nn) (d:=(ts k).held) (b:=some gb) (show k<gos.size by omega)).2.2 ?_) | (refine TC.bigC 6 19 k (zau 130 157 189 3 l (bs) (ts9)) rfl rfl (by decide) (fun x h=>h) (fun j hj hne x h=>by unfold zbq at h; rwa [if_neg hne] at h) ?_) | skip
 refine TC.region (TL.add (((i+1:Nat):Int)) rfl rfl (wrN (by omega)) rfl rfl (xmi rfl (TL.done (TQ.roundK ((i+1,σ9,ts9,bs,gos,gd9)) ⟨⟨(show i+1≤qn by omega),hP9.mono (by omega),hK9,hbs⟩,(show qn - (i+1)<qn - i by omega)⟩ ⟨rfl,trivial⟩ ⟨rfl,rfl,rfl,rfl,rfl,trivial⟩ (kE4 rfl rfl rfl rfl trivial) (kL3 rfl rfl rfl trivial)))))
 refine dS (TC.condF rfl (TC.exit (TQ.thenExit (TQ.thenExit (TQ.blockHere (TQ.then (sA (TL.callD [] [] zfS trivial trivial znV rfl rfl rfl rfl rfl trivial ?_))))))))
 refine xat rfl (dR ?_)
 refine FQ.ret1 (v:=(.bool true)) (Bs:=[_]) [0] rfl rfl rfl ⟨rfl,trivial⟩ ?_
 first | exact ⟨rfl,rfl⟩ | (exfalso; simp_all; done)
end Go.Proofs.YtjnpjkfliochbaaGreat
