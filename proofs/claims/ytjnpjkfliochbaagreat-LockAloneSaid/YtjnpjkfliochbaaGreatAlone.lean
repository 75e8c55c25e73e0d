/-
  'tombololaw18.LockAlone' returns true for every input, and leaves its arguments as they were. No condition.
-/
import Derived.Test.YtjnpjkfliochbaaGreatRows
import Derived.Test.YtjnpjkfliochbaaGreatConC
set_option linter.unusedVariables false
set_option linter.unusedSimpArgs false
set_option maxRecDepth 100000
namespace Go.Proofs.YtjnpjkfliochbaaGreat
open Go.ChangeShapes Go.WideShapes Go.ChangeAt Go.RowKit Go.Joins Go.Eng Go.Tm
theorem Tryz.own:ownKnob Tryz.prog.godebug=none:=by kernel_rfl
theorem Tryz.laidOut:laidOutB Tryz.prog=true:=by kernel_rfl
section
variable {H:Type} {enc:TypeId×Value→H} {W:World} {base b0:Nat} {r:Reach} {spare:Nat→Bool} {held:Bool} {v:Value} {d:DataW H} {p:List MemPlace}
theorem zoP {t:TypeId} {ks:List CK} (hk:cks Tryz.prog 5 t=some ks) (hv:∃ cs,v=.agg cs) (h:DataW.Trod enc Tryz.prog W base spare held t v d p):∃ cs:List Value,v=.agg cs.toArray∧zdH enc Tryz.prog W base spare held cs ks:=by
 obtain ⟨cs,rfl⟩:=hv
 obtain ⟨fuel,hf⟩:=h
 exact ⟨cs.toList,by simp,zc8 5 t ks _ hk ⟨fuel,_,hf⟩⟩
theorem zmr (hv:Value.okWide Tryz.prog W r b0 27 v) (h:DataW.Trod enc Tryz.prog W base spare held 27 v d p) :
  ∃ (V S T:Int) (da:Option Addr) (bd offd dn dc:Nat) (fd:Nat→Int) (ea:Option Addr) (be offe en ec:Nat) (fe:Nat→Op2) (na:Option Addr) (bn offn nn nc:Nat) (fn:Nat→Op2),v=.agg #[.int .i64 V,.int .i64 S,.int .i64 T,.slice da dn dc,.slice ea en ec,.slice na nn nc]∧(0<dn→da=some ⟨bd,offd,none⟩)∧zaM (AW W) encU 1 bd offd dn fd∧(∀ i,i<dn→0≤fd i∧fd i<18446744073709551616)∧(0<en→ea=some ⟨be,offe,none⟩)∧zaM (AW W) zfQ 2 be offe en fe∧en≤ec∧(0<nn→na=some ⟨bn,offn,none⟩)∧zaM (AW W) zfQ 2 bn offn nn fn∧nn≤nc:=by
 obtain ⟨cs,rfl,hf⟩:=zoP (ks:=[.i .i64,.i .i64,.i .i64,.s 71,.s 66,.s 66]) (by kernel_rfl) (by obtain ⟨fs,hu⟩:=zir (P:=Tryz.prog) (t:=27) (by kernel_rfl); exact okWide_struct hu hv |>.imp fun _ h=>h.1) h
 obtain ⟨x0,x1,x2,x3,x4,x5,rfl,h0,h1,h2,h3,h4,h5⟩:=fits6 hf
 obtain ⟨V,rfl,_⟩:=h0
 obtain ⟨S,rfl,_⟩:=h1
 obtain ⟨T,rfl,_⟩:=h2
 obtain ⟨da,bd,offd,dn,dc,fd,rfl,hda,hAd,hfd⟩:=h3.row (en:=encU) (m:=1) (G:=fun z=>0≤z∧z<18446744073709551616) (by kernel_rfl) (by decide) (fun _=>rfl) fun cs h=>by
  obtain ⟨x,rfl,h9⟩:=fits1 (zc8 5 _ [.i .u64] cs (by kernel_rfl) h)
  obtain ⟨z,rfl,hw⟩:=h9
  have:=bounds_u64 hw; exact ⟨z,rfl,by omega⟩
 obtain ⟨ea,be,offe,en,ec,fe,rfl,hec,hea,hAe,_⟩:=h4.rowC (en:=zfQ) (m:=2) (G:=fun _=>True) (by kernel_rfl) (by decide) (fun _=>rfl) fun cs h=>by
  obtain ⟨x0,x1,rfl,h0,h1⟩:=zsw (zc8 5 _ [.i .i64,.i .i64] cs (by kernel_rfl) h)
  obtain ⟨z0,rfl,_⟩:=h0
  obtain ⟨z1,rfl,_⟩:=h1
  exact ⟨⟨z0,z1⟩,rfl,trivial⟩
 obtain ⟨na,bn,offn,nn,nc,fn,rfl,hnc,hna,hAn,_⟩:=h5.rowC (en:=zfQ) (m:=2) (G:=fun _=>True) (by kernel_rfl) (by decide) (fun _=>rfl) fun cs h=>by
  obtain ⟨x0,x1,rfl,h0,h1⟩:=zsw (zc8 5 _ [.i .i64,.i .i64] cs (by kernel_rfl) h)
  obtain ⟨z0,rfl,_⟩:=h0
  obtain ⟨z1,rfl,_⟩:=h1
  exact ⟨⟨z0,z1⟩,rfl,trivial⟩
 exact ⟨V,S,T,da,bd,offd,dn,dc,fd,ea,be,offe,en,ec,fe,na,bn,offn,nn,nc,fn,rfl,hda,hAd,hfd,hea,hAe,hec,hna,hAn,hnc⟩
end
theorem alone18_lifted (os:Os) (started:os.Started) (H:Type) (enc:TypeId×Value→H) :
  ReturnsInHanded {} Tryz.checked os 7 .any (Rows.lockAloneSpec.pre6 enc Tryz.prog Tryz.f7 Rows.lockAloneRow.domain false) (Rows.lockAloneSpec.post enc Tryz.prog Tryz.f7 false true false false):=by
 refine returnsInHanded_of_change (C:=Tryz.checked) Tryz.own started (by kernel_rfl) Tryz.func7
  (ChangeSpec.witness6 (enc:=enc) (C:=Tryz.checked) false ⟨#[],#[.agg #[.int .i64 0,.int .i64 0,.int .i64 0,.slice none 0 0,.slice none 0 0,.slice none 0 0]],[]⟩ 8 (by kernel_rfl) (by kernel_rfl) (by kernel_rfl) (by kernel_rfl)) ?_
 intro W base args ds gs before hval0 hW hcnd _
 have hval:∀ (j:Nat) t v,Tryz.f7.params[j]?=some t→args[j]?=some v→Value.okWide Tryz.prog W .any base t v:=hval0
 have hW':=hW
 obtain ⟨p,q,hA0,hV,rfl,hfz,hnd⟩:=hW
 have hA:DataW.TrodAll enc Tryz.prog W 0 (fun _=>true) true Tryz.f7.params.toList args.toList ds p:=hA0
 rw [Tryz.params7] at hA hval
 obtain ⟨v0,d0,rfl,rfl,h0⟩:=trodAll_one hA
 obtain ⟨rfl,rfl⟩:=trodVars_none hV
 have k0:=h0
 obtain ⟨V,S,T,da,bd,offd,dn,dc,fd,ea,be,offe,en,ec,fe,na,bn,offn,nn,nc,fn,rfl,hda,hAd,hfd,hea,hAe,hec,hna,hAn,hnc⟩:=zmr (hval 0 27 _ rfl rfl) h0
 have hfn:FnD Tryz.prog 7 [.agg #[.int .i64 V,.int .i64 S,.int .i64 T,.slice da dn dc,.slice ea en ec,.slice na nn nc]] [AW W] (.bool true) [AW W]:=by
  by_cases hok:(okL V S T∧V≤8∧S≤12∧dn≤60∧en≤30∧1≤nn∧(nn:Int)≤T∧∀ i,i<nn→EndOk V (fn i))
  ·obtain ⟨l,hl,rfl,rfl,rfl⟩:=zqR hok.1
   exact zok hl hda hAd hfd hea hAe hec hna hAn hnc hok
  ·exact zoj hda hAd hfd hea hAe hec hna hAn hnc  hok
 refine (Fn.callsW hfn).mono fun e W' ⟨he,hB⟩=>?_
 subst he
 refine ⟨_,rfl,_,_,_,[],_,[],hW',trodAll_mk1 (shut_bool Tryz.underlying4 true),trodAll_mk1 (Below.trod Tryz.laidOut (by kernel_rfl) (of_decide_eq_true (by kernel_rfl)) k0 hB (by obtain ⟨n,hn⟩:=k0; exact DataW.trod_lt n _ _ _ hn)),rfl,hB.frame _,fun h=>by cases h⟩
theorem alone18_holds:Rows.LockAloneSaid :=
 OpenClaim.holds_of_wide 7 Tryz.f7 rfl rfl rfl rfl rfl rfl rfl ⟨rfl,rfl,rfl,rfl,rfl⟩ rfl rfl rfl rfl rfl (by kernel_rfl) Tryz.func7 (by kernel_rfl)
  (of_decide_eq_true (by kernel_rfl)) (by unfold Func.isWrapper; rw [if_neg (of_decide_eq_false (by kernel_rfl))]; exact ⟨rfl,rfl⟩)
  (fun os started H enc _=>alone18_lifted os started H enc)
end Go.Proofs.YtjnpjkfliochbaaGreat
