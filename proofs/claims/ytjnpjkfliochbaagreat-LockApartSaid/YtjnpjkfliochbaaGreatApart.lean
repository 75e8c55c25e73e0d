/-
  'tombololaw18.LockApart' returns true for every input, and leaves its arguments as they were. No condition.
-/
import Derived.Test.YtjnpjkfliochbaaGreatRows
import Derived.Test.YtjnpjkfliochbaaGreatConC
set_option linter.unusedVariables false
set_option linter.unusedSimpArgs false
set_option maxRecDepth 100000
namespace Go.Proofs.YtjnpjkfliochbaaGreat
open Go.ChangeShapes Go.WideShapes Go.ChangeAt Go.RowKit Go.Joins Go.Eng Go.Tm
theorem Tryz.own:ownKnob Tryz.prog.godebug=none:=by kernel_rfl
theorem Tryz.laidOut:laidOutB Tryz.prog=true:=by kernel_rfl
section
variable {H:Type} {enc:TypeId×Value→H} {W:World} {base b0:Nat} {r:Reach} {spare:Nat→Bool} {held:Bool} {v:Value} {d:DataW H} {p:List MemPlace}
theorem zpg {t:TypeId} {ks:List CK} (hk:cks Tryz.prog 5 t=some ks) (hv:∃ cs,v=.agg cs) (h:DataW.Trod enc Tryz.prog W base spare held t v d p):∃ cs:List Value,v=.agg cs.toArray∧zd0 enc Tryz.prog W base spare held cs ks:=by
 obtain ⟨cs,rfl⟩:=hv
 obtain ⟨fuel,hf⟩:=h
 exact ⟨cs.toList,by simp,zcs 5 t ks _ hk ⟨fuel,_,hf⟩⟩
theorem zmY (hv:Value.okWide Tryz.prog W r b0 27 v) (h:DataW.Trod enc Tryz.prog W base spare held 27 v d p) :
  ∃ (V S T:Int) (da:Option Addr) (bd offd dn dc:Nat) (fd:Nat→Int) (ea:Option Addr) (be offe en ec:Nat) (fe:Nat→Op2) (na:Option Addr) (bn offn nn nc:Nat) (fn:Nat→Op2),v=.agg #[.int .i64 V,.int .i64 S,.int .i64 T,.slice da dn dc,.slice ea en ec,.slice na nn nc]∧(0<dn→da=some ⟨bd,offd,none⟩)∧zaV (AW W) encU 1 bd offd dn fd∧(∀ i,i<dn→0≤fd i∧fd i<18446744073709551616)∧(0<en→ea=some ⟨be,offe,none⟩)∧zaV (AW W) zfq 2 be offe en fe∧en≤ec∧(0<nn→na=some ⟨bn,offn,none⟩)∧zaV (AW W) zfq 2 bn offn nn fn∧nn≤nc:=by
 obtain ⟨cs,rfl,hf⟩:=zpg (ks:=[.i .i64,.i .i64,.i .i64,.s 71,.s 66,.s 66]) (by kernel_rfl) (by obtain ⟨fs,hu⟩:=ziM (P:=Tryz.prog) (t:=27) (by kernel_rfl); exact okWide_struct hu hv |>.imp fun _ h=>h.1) h
 obtain ⟨x0,x1,x2,x3,x4,x5,rfl,h0,h1,h2,h3,h4,h5⟩:=fits6 hf
 obtain ⟨V,rfl,_⟩:=h0
 obtain ⟨S,rfl,_⟩:=h1
 obtain ⟨T,rfl,_⟩:=h2
 obtain ⟨da,bd,offd,dn,dc,fd,rfl,hda,hAd,hfd⟩:=h3.row (en:=encU) (m:=1) (G:=fun z=>0≤z∧z<18446744073709551616) (by kernel_rfl) (by decide) (fun _=>rfl) fun cs h=>by
  obtain ⟨x,rfl,h9⟩:=zry (zcs 5 _ [.i .u64] cs (by kernel_rfl) h)
  obtain ⟨z,rfl,hw⟩:=h9
  have:=bounds_u64 hw; exact ⟨z,rfl,by omega⟩
 obtain ⟨ea,be,offe,en,ec,fe,rfl,hec,hea,hAe,_⟩:=h4.rowC (en:=zfq) (m:=2) (G:=fun _=>True) (by kernel_rfl) (by decide) (fun _=>rfl) fun cs h=>by
  obtain ⟨x0,x1,rfl,h0,h1⟩:=zsX (zcs 5 _ [.i .i64,.i .i64] cs (by kernel_rfl) h)
  obtain ⟨z0,rfl,_⟩:=h0
  obtain ⟨z1,rfl,_⟩:=h1
  exact ⟨⟨z0,z1⟩,rfl,trivial⟩
 obtain ⟨na,bn,offn,nn,nc,fn,rfl,hnc,hna,hAn,_⟩:=h5.rowC (en:=zfq) (m:=2) (G:=fun _=>True) (by kernel_rfl) (by decide) (fun _=>rfl) fun cs h=>by
  obtain ⟨x0,x1,rfl,h0,h1⟩:=zsX (zcs 5 _ [.i .i64,.i .i64] cs (by kernel_rfl) h)
  obtain ⟨z0,rfl,_⟩:=h0
  obtain ⟨z1,rfl,_⟩:=h1
  exact ⟨⟨z0,z1⟩,rfl,trivial⟩
 exact ⟨V,S,T,da,bd,offd,dn,dc,fd,ea,be,offe,en,ec,fe,na,bn,offn,nn,nc,fn,rfl,hda,hAd,hfd,hea,hAe,hec,hna,hAn,hnc⟩
theorem zmX (hs:∃ a n c,v=.slice a n c) (h:DataW.Trod enc Tryz.prog W base spare held 59 v d p):∃ (qa:Option Addr) (bq offq qn qc:Nat) (fq:Nat→Int),v=.slice qa qn qc∧(0<qn→qa=some ⟨bq,offq,none⟩)∧zaV (AW W) encI 1 bq offq qn fq:=by
 obtain ⟨a0,n0,c0,rfl⟩:=hs
 obtain ⟨fuel,hf⟩:=h
 obtain ⟨x0,h0,h3⟩:=zry (zcs 5 59 [.s 3] [.slice a0 n0 c0] (by kernel_rfl) ⟨fuel,_,hf⟩)
 obtain ⟨rfl,_⟩:=List.cons.inj h0
 obtain ⟨qa,bq,offq,qn,qc,fq,h4,h5,h6,_⟩:=h3.row (en:=encI) (m:=1) (G:=fun _=>True) (by kernel_rfl) (by decide) (fun _=>rfl) fun cs h=>by
  obtain ⟨x,rfl,h9⟩:=zry (zcs 5 _ [.i .i64] cs (by kernel_rfl) h)
  obtain ⟨z,rfl,_⟩:=h9
  exact ⟨z,rfl,trivial⟩
 exact ⟨qa,bq,offq,qn,qc,fq,h4,h5,h6⟩
end
theorem apartL18_lifted (os:Os) (started:os.Started) (H:Type) (enc:TypeId×Value→H) :
  ReturnsInHanded {} Tryz.checked os 4 .any (Rows.lockApartSpec.pre6 enc Tryz.prog Tryz.f4 Rows.lockApartRow.domain false) (Rows.lockApartSpec.post enc Tryz.prog Tryz.f4 false true false false):=by
 refine returnsInHanded_of_change (C:=Tryz.checked) Tryz.own started (by kernel_rfl) Tryz.func4
  (ChangeSpec.witness6 (enc:=enc) (C:=Tryz.checked) false ⟨#[],#[.agg #[.int .i64 0,.int .i64 0,.int .i64 0,.slice none 0 0,.slice none 0 0,.slice none 0 0],.slice none 0 0],[]⟩ 8 (by kernel_rfl) (by kernel_rfl) (by kernel_rfl) (by kernel_rfl)) ?_
 intro W base args ds gs before hval0 hW hcnd _
 have hval:∀ (j:Nat) t v,Tryz.f4.params[j]?=some t→args[j]?=some v→Value.okWide Tryz.prog W .any base t v:=hval0
 have hW':=hW
 obtain ⟨p,q,hA0,hV,rfl,hfz,hnd⟩:=hW
 have hA:DataW.TrodAll enc Tryz.prog W 0 (fun _=>true) true Tryz.f4.params.toList args.toList ds p:=hA0
 rw [Tryz.params4] at hA hval
 obtain ⟨v0,v1,d0,d1,p0,p1,rfl,rfl,rfl,h0,h1⟩:=trodAll_two hA
 obtain ⟨rfl,rfl⟩:=trodVars_none hV
 have k0:=h0
 have k1:=h1
 obtain ⟨V,S,T,da,bd,offd,dn,dc,fd,ea,be,offe,en,ec,fe,na,bn,offn,nn,nc,fn,rfl,hda,hAd,hfd,hea,hAe,hec,hna,hAn,hnc⟩:=zmY (hval 0 27 _ rfl rfl) h0
 obtain ⟨qa,bq,offq,qn,qc,fq,rfl,hqa,hAq⟩:=zmX (okWide_slice Tryz.underlying59 (hval 1 59 _ rfl rfl)) h1
 have hfn:FnD Tryz.prog 4 [.agg #[.int .i64 V,.int .i64 S,.int .i64 T,.slice da dn dc,.slice ea en ec,.slice na nn nc],.slice qa qn qc] [AW W] (.bool true) [AW W]:=by
  by_cases hok:(okL V S T∧V≤8∧S≤12∧dn≤60∧en≤30∧1≤nn∧(nn:Int)≤T∧∀ i,i<nn→EndOk V (fn i))
  ·obtain ⟨l,hl,rfl,rfl,rfl⟩:=zrh hok.1
   exact zma hl hda hAd hfd hea hAe hec hna hAn hnc hqa hAq hok
  ·exact zl9 hda hAd hfd hea hAe hec hna hAn hnc hqa hAq hok
 refine (Fn.callsW hfn).mono fun e W' ⟨he,hB⟩=>?_
 subst he
 refine ⟨_,rfl,_,_,_,[],_,[],hW',trodAll_mk1 (shut_bool Tryz.underlying4 true),trodAll_mk2 (Below.trod Tryz.laidOut (by kernel_rfl) (of_decide_eq_true (by kernel_rfl)) k0 hB (by obtain ⟨n,hn⟩:=k0; exact DataW.trod_lt n _ _ _ hn)) (Below.trod Tryz.laidOut (by kernel_rfl) (of_decide_eq_true (by kernel_rfl)) k1 hB (by obtain ⟨n,hn⟩:=k1; exact DataW.trod_lt n _ _ _ hn)),rfl,hB.frame _,fun h=>by cases h⟩
theorem apartL18_holds:Rows.LockApartSaid :=
 OpenClaim.holds_of_wide 4 Tryz.f4 rfl rfl rfl rfl rfl rfl rfl ⟨rfl,rfl,rfl,rfl,rfl⟩ rfl rfl rfl rfl rfl (by kernel_rfl) Tryz.func4 (by kernel_rfl)
  (of_decide_eq_true (by kernel_rfl)) (by unfold Func.isWrapper; rw [if_neg (of_decide_eq_false (by kernel_rfl))]; exact ⟨rfl,rfl⟩)
  (fun os started H enc _=>apartL18_lifted os started H enc)
end Go.Proofs.YtjnpjkfliochbaaGreat
