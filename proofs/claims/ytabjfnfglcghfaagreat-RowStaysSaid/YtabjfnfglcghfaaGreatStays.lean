/-
  'tombololaw19.RowStays' returns true for every input, and leaves its arguments as they were. No condition.
-/
import Derived.Test.YtabjfnfglcghfaaGreatRows
import Derived.Test.YtabjfnfglcghfaaGreatConD
set_option linter.unusedVariables false
set_option linter.unusedSimpArgs false
set_option maxRecDepth 100000
namespace Go.Proofs.YtabjfnfglcghfaaGreat
open Go.ChangeShapes Go.WideShapes Go.ChangeAt Go.RowKit Go.Joins Go.Eng Go.Tm
theorem Tryz.own:ownKnob Tryz.prog.godebug=none:=by kernel_rfl
theorem Tryz.laidOut:laidOutB Tryz.prog=true:=by kernel_rfl
section
variable {H:Type} {enc:TypeId×Value->H} {W:World} {base b0:Nat} {r:Reach} {spare:Nat->Bool} {held:Bool} {v:Value} {d:DataW H} {p:List MemPlace}
theorem zvs {t:TypeId} {ks:List CK} (hk:cks Tryz.prog 5 t=some ks) (hv:∃ cs,v=.agg cs) (h:DataW.Trod enc Tryz.prog W base spare held t v d p):∃ cs:List Value,v=.agg cs.toArray/\zfH enc Tryz.prog W base spare held cs ks:=by
 obtain ⟨cs,rfl⟩:=hv
 obtain ⟨fuel,hf⟩:=h
 exact ⟨cs.toList,by simp,zfK 5 t ks _ hk ⟨fuel,_,hf⟩⟩
theorem zsm (hv:Value.okWide Tryz.prog W r b0 44 v) (h:DataW.Trod enc Tryz.prog W base spare held 44 v d p) :
  ∃ (V S T:Int) (da:Option Addr) (bd offd dn dc:Nat) (fd:Nat->Int) (oa:Option Addr) (bo offo on oc:Nat) (fo:Nat->Op3),v=.agg #[.int .i64 V,.int .i64 S,.int .i64 T,.slice da dn dc,.slice oa on oc]/\(0<dn->da=some ⟨bd,offd,none⟩)/\za8 (AW W) encU 1 bd offd dn fd/\(∀ i,i<dn->0<=fd i/\fd i<18446744073709551616)/\(0<on->oa=some ⟨bo,offo,none⟩)/\za8 (AW W) zzC 3 bo offo on fo/\on<=oc:=by
 obtain ⟨cs,rfl,hf⟩:=zvs (ks:=[.i .i64,.i .i64,.i .i64,.s 29,.s 91]) (by kernel_rfl) (by obtain ⟨fs,hu⟩:=zmt (P:=Tryz.prog) (t:=44) (by kernel_rfl); exact okWide_struct hu hv |>.imp fun _ h=>h.1) h
 obtain ⟨x0,x1,x2,x3,x4,rfl,h0,h1,h2,h3,h4⟩:=fits5 hf
 obtain ⟨V,rfl,_⟩:=h0
 obtain ⟨S,rfl,_⟩:=h1
 obtain ⟨T,rfl,_⟩:=h2
 obtain ⟨da,bd,offd,dn,dc,fd,rfl,hda,hAd,hfd⟩:=h3.row (en:=encU) (m:=1) (G:=fun z=>0<=z/\z<18446744073709551616) (by kernel_rfl) (by decide) (fun _=>rfl) fun cs h=>by
  obtain ⟨x,rfl,h9⟩:=fits1 (zfK 5 _ [.i .u64] cs (by kernel_rfl) h)
  obtain ⟨z,rfl,hw⟩:=h9
  have:=bounds_u64 hw; exact ⟨z,Z,by omega⟩
 obtain ⟨oa,bo,offo,on,oc,fo,rfl,hoc,hoa,hAo,_⟩:=h4.rowC (en:=zzC) (m:=3) (G:=fun _=>True) (by kernel_rfl) (by decide) (fun _=>rfl) fun cs h=>by
  obtain ⟨x0,x1,x2,rfl,h0,h1,h2⟩:=fits3 (zfK 5 _ [.i .i64,.i .i64,.i .i64] cs (by kernel_rfl) h)
  obtain ⟨z0,rfl,_⟩:=h0
  obtain ⟨z1,rfl,_⟩:=h1
  obtain ⟨z2,rfl,_⟩:=h2
  exact ⟨⟨z0,z1,z2⟩,Z,Zt⟩
 exact ⟨V,S,T,da,bd,offd,dn,dc,fd,oa,bo,offo,on,oc,fo,Z,hda,hAd,hfd,hoa,hAo,hoc⟩
end
theorem staysR_lifted (os:Os) (started:os.Started) (H:Type) (enc:TypeId×Value->H) :
  ReturnsInHanded {} Tryz.checked os 8 .any (Rows.rowStaysSpec.pre6 enc Tryz.prog Tryz.f8 Rows.rowStaysRow.domain false) (Rows.rowStaysSpec.post enc Tryz.prog Tryz.f8 false true false false):=by
 refine returnsInHanded_of_change (C:=Tryz.checked) Tryz.own started (by kernel_rfl) Tryz.func8
  (ChangeSpec.witness6 (enc:=enc) (C:=Tryz.checked) false ⟨#[],#[.agg #[.int .i64 0,.int .i64 0,.int .i64 0,.slice none 0 0,.slice none 0 0]],[]⟩ 8 (by kernel_rfl) (by kernel_rfl) (by kernel_rfl) (by kernel_rfl)) ?_
 intro W base args ds gs before hval0 hW hcnd _
 have hval:∀ (j:Nat) t v,Tryz.f8.params[j]?=some t->args[j]?=some v->Value.okWide Tryz.prog W .any base t v:=hval0
 have hW':=hW
 obtain ⟨p,q,hA0,hV,rfl,hfz,hnd⟩:=hW
 have hA:DataW.TrodAll enc Tryz.prog W 0 (fun _=>true) true Tryz.f8.params.toList args.toList ds p:=hA0
 rw [Tryz.params8] at hA hval
 obtain ⟨v0,d0,rfl,rfl,h0⟩:=trodAll_one hA
 obtain ⟨rfl,rfl⟩:=trodVars_none hV
 have k0:=h0
 obtain ⟨V,S,T,da,bd,offd,dn,dc,fd,oa,bo,offo,on,oc,fo,rfl,hda,hAd,hfd,hoa,hAo,hoc⟩:=zsm (hval 0 44 _ rfl rfl) h0
 have hfn:FnD Tryz.prog 8 [.agg #[.int .i64 V,.int .i64 S,.int .i64 T,.slice da dn dc,.slice oa on oc]] [AW W] (.bool true) [AW W]:=by
  by_cases hok:(okL V S T/\V<=6/\S<=8/\dn<=60/\on<=24)
  ·obtain ⟨l,hl,rfl,rfl,rfl⟩:=zx2 hok.1
   exact zu0 hl hda hAd hfd hoa hAo hoc hok
  ·exact FnD.frame1 (zuZ hok)
 refine (Fn.callsW hfn).mono fun e W' ⟨he,hB⟩=>?_
 subst he
 refine ⟨_,rfl,_,_,_,[],_,[],hW',trodAll_mk1 (shut_bool Tryz.underlying4 true),trodAll_mk1 (Below.trod Tryz.laidOut (by kernel_rfl) (of_decide_eq_true (by kernel_rfl)) k0 hB (by obtain ⟨n,hn⟩:=k0; exact DataW.trod_lt n _ _ _ hn)),rfl,hB.frame _,fun h=>by cases h⟩
theorem zcX {a b:Bool} (h1:a=true) (h2:b=true):(a && b)=true:=by rw [h1,h2]; rfl
theorem zry:laidOutB Tryz.prog=true:=Tryz.laidOut
theorem zrx:mapsRowed Tryz.prog=true:=by kernel_rfl
theorem zrw:(Tryz.prog.stops == [])=true:=by kernel_rfl
theorem zrv:(Tryz.prog.stopKnobs == [])=true:=by kernel_rfl
theorem zqx:(Rows.rowStaysRow.inPlace == Tryz.prog.inPlace 8)=true:=by kernel_rfl
theorem zqw:(Rows.rowStaysRow.unfollowed == Tryz.prog.unfollowed 8)=true:=by kernel_rfl
theorem zqv:(Rows.rowStaysRow.recurses == Tryz.prog.recurses 8)=true:=by kernel_rfl
theorem zqu:(Rows.rowStaysRow.named == Tryz.prog.varsNamed 8)=true:=by kernel_rfl
theorem zqt:(Rows.rowStaysRow.plainKeys == Tryz.prog.plainKeys)=true:=by kernel_rfl
theorem zqs:Tryz.prog.stopsHeard=true:=by kernel_rfl
theorem zqr:Tryz.prog.mayEnter=true:=by kernel_rfl
theorem zqq:(Rows.rowStaysRow.lifted == Tryz.prog.liftsFinal)=true:=by kernel_rfl
theorem zqp:(Tryz.prog.make == some Rows.rowStaysRow.make)=true:=by kernel_rfl
theorem zu1:joinedFacts Tryz.pinned.checked.prog 8 Tryz.f8 Rows.rowStaysSpec Rows.rowStaysRow=true:=by
 unfold joinedFacts
 exact zcX (zcX (zcX (zcX (zcX (zcX (zcX (zcX (zcX (zcX (zcX (zcX (zcX (zcX (zcX (zcX (zcX (zcX (zcX (zcX (zcX (zcX (zcX (zcX (zcX (zcX (zcX (zcX (zcX (zcX (zcX ((by kernel_rfl)) (zry)) (zrx)) (by kernel_rfl)) (by kernel_rfl)) (by kernel_rfl)) (zrw)) (by kernel_rfl)) (zrv)) (zqx)) (zqw)) (zqv)) (zqu)) (by kernel_rfl)) (by kernel_rfl)) (by kernel_rfl)) (by kernel_rfl)) (by kernel_rfl)) (by kernel_rfl)) (by kernel_rfl)) (by kernel_rfl)) (by kernel_rfl)) (zqt)) (by kernel_rfl)) (zqs)) (zqr)) (zqq)) (zqp)) (by kernel_rfl)) (by kernel_rfl)) (by kernel_rfl)) (by kernel_rfl)
theorem staysR_holds:Rows.RowStaysSaid :=
 OpenClaim.holds_of_wide 8 Tryz.f8 Z Z Z Z Z Z Z ⟨Z,Z,Z,Z,Z⟩ Z Z Z Z Z (by kernel_rfl) Tryz.func8 zu1
  (of_decide_eq_true (by kernel_rfl)) (by unfold Func.isWrapper; rw [Zn (of_decide_eq_false (by kernel_rfl))]; exact ⟨Z,Z⟩)
  (fun os started H enc _=>staysR_lifted os started H enc)
end Go.Proofs.YtabjfnfglcghfaaGreat
