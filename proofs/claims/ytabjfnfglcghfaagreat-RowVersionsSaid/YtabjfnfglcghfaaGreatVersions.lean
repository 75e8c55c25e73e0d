/-
  'tombololaw19.RowVersions' returns true for every input, and leaves its arguments as they were. No condition.
-/
import Derived.Test.YtabjfnfglcghfaaGreatRows
import Derived.Test.YtabjfnfglcghfaaGreatConC
set_option linter.unusedVariables false
set_option linter.unusedSimpArgs false
set_option maxRecDepth 100000
namespace Go.Proofs.YtabjfnfglcghfaaGreat
open Go.ChangeShapes Go.WideShapes Go.ChangeAt Go.RowKit Go.Joins Go.Eng Go.Tm
theorem Tryz.own:ownKnob Tryz.prog.godebug=none:=by kernel_rfl
theorem Tryz.laidOut:laidOutB Tryz.prog=true:=by kernel_rfl
section
variable {H:Type} {enc:TypeId×Value->H} {W:World} {base b0:Nat} {r:Reach} {spare:Nat->Bool} {held:Bool} {v:Value} {d:DataW H} {p:List MemPlace}
theorem zvv {t:TypeId} {ks:List CK} (hk:cks Tryz.prog 5 t=some ks) (hv:∃ cs,v=.agg cs) (h:DataW.Trod enc Tryz.prog W base spare held t v d p):∃ cs:List Value,v=.agg cs.toArray/\zfE enc Tryz.prog W base spare held cs ks:=by
 obtain ⟨cs,rfl⟩:=hv
 obtain ⟨fuel,hf⟩:=h
 exact ⟨cs.toList,by simp,zfH 5 t ks _ hk ⟨fuel,_,hf⟩⟩
theorem zsc (hv:Value.okWide Tryz.prog W r b0 44 v) (h:DataW.Trod enc Tryz.prog W base spare held 44 v d p) :
  ∃ (V S T:Int) (da:Option Addr) (bd offd dn dc:Nat) (fd:Nat->Int) (oa:Option Addr) (bo offo on oc:Nat) (fo:Nat->Op3),v=.agg #[.int .i64 V,.int .i64 S,.int .i64 T,.slice da dn dc,.slice oa on oc]/\(0<dn->da=some ⟨bd,offd,none⟩)/\zbj (AW W) encU 1 bd offd dn fd/\(∀ i,i<dn->0<=fd i/\fd i<18446744073709551616)/\(0<on->oa=some ⟨bo,offo,none⟩)/\zbj (AW W) ztY 3 bo offo on fo/\on<=oc:=by
 obtain ⟨cs,rfl,hf⟩:=zvv (ks:=[.i .i64,.i .i64,.i .i64,.s 29,.s 91]) (by kernel_rfl) (by obtain ⟨fs,hu⟩:=zmq (P:=Tryz.prog) (t:=44) (by kernel_rfl); exact okWide_struct hu hv |>.imp fun _ h=>h.1) h
 obtain ⟨x0,x1,x2,x3,x4,rfl,h0,h1,h2,h3,h4⟩:=fits5 hf
 obtain ⟨V,rfl,_⟩:=h0
 obtain ⟨S,rfl,_⟩:=h1
 obtain ⟨T,rfl,_⟩:=h2
 obtain ⟨da,bd,offd,dn,dc,fd,rfl,hda,hAd,hfd⟩:=h3.row (en:=encU) (m:=1) (G:=fun z=>0<=z/\z<18446744073709551616) (by kernel_rfl) (by decide) (fun _=>rfl) fun cs h=>by
  obtain ⟨x,rfl,h9⟩:=fits1 (zfH 5 _ [.i .u64] cs (by kernel_rfl) h)
  obtain ⟨z,rfl,hw⟩:=h9
  have:=bounds_u64 hw; exact ⟨z,Z,by omega⟩
 obtain ⟨oa,bo,offo,on,oc,fo,rfl,hoc,hoa,hAo,_⟩:=h4.rowC (en:=ztY) (m:=3) (G:=fun _=>True) (by kernel_rfl) (by decide) (fun _=>rfl) fun cs h=>by
  obtain ⟨x0,x1,x2,rfl,h0,h1,h2⟩:=fits3 (zfH 5 _ [.i .i64,.i .i64,.i .i64] cs (by kernel_rfl) h)
  obtain ⟨z0,rfl,_⟩:=h0
  obtain ⟨z1,rfl,_⟩:=h1
  obtain ⟨z2,rfl,_⟩:=h2
  exact ⟨⟨z0,z1,z2⟩,Z,Zt⟩
 exact ⟨V,S,T,da,bd,offd,dn,dc,fd,oa,bo,offo,on,oc,fo,Z,hda,hAd,hfd,hoa,hAo,hoc⟩
end
theorem versR_lifted (os:Os) (started:os.Started) (H:Type) (enc:TypeId×Value->H) :
  ReturnsInHanded {} Tryz.checked os 7 .any (Rows.rowVersionsSpec.pre6 enc Tryz.prog Tryz.f7 Rows.rowVersionsRow.domain false) (Rows.rowVersionsSpec.post enc Tryz.prog Tryz.f7 false true false false):=by
 refine returnsInHanded_of_change (C:=Tryz.checked) Tryz.own started (by kernel_rfl) Tryz.func7
  (ChangeSpec.witness6 (enc:=enc) (C:=Tryz.checked) false ⟨#[],#[.agg #[.int .i64 0,.int .i64 0,.int .i64 0,.slice none 0 0,.slice none 0 0]],[]⟩ 8 (by kernel_rfl) (by kernel_rfl) (by kernel_rfl) (by kernel_rfl)) ?_
 intro W base args ds gs before hval0 hW hcnd _
 have hval:∀ (j:Nat) t v,Tryz.f7.params[j]?=some t->args[j]?=some v->Value.okWide Tryz.prog W .any base t v:=hval0
 have hW':=hW
 obtain ⟨p,q,hA0,hV,rfl,hfz,hnd⟩:=hW
 have hA:DataW.TrodAll enc Tryz.prog W 0 (fun _=>true) true Tryz.f7.params.toList args.toList ds p:=hA0
 rw [Tryz.params7] at hA hval
 obtain ⟨v0,d0,rfl,rfl,h0⟩:=trodAll_one hA
 obtain ⟨rfl,rfl⟩:=trodVars_none hV
 have k0:=h0
 obtain ⟨V,S,T,da,bd,offd,dn,dc,fd,oa,bo,offo,on,oc,fo,rfl,hda,hAd,hfd,hoa,hAo,hoc⟩:=zsc (hval 0 44 _ rfl rfl) h0
 have hfn:FnD Tryz.prog 7 [.agg #[.int .i64 V,.int .i64 S,.int .i64 T,.slice da dn dc,.slice oa on oc]] [AW W] (.bool true) [AW W]:=by
  by_cases hok:(okL V S T/\V<=6/\S<=8/\dn<=60/\on<=24)
  ·obtain ⟨l,hl,rfl,rfl,rfl⟩:=zx0 hok.1
   exact zxm hl hda hAd hfd hoa hAo hoc hok
  ·exact FnD.frame1 (zxl hok)
 refine (Fn.callsW hfn).mono fun e W' ⟨he,hB⟩=>?_
 subst he
 refine ⟨_,rfl,_,_,_,[],_,[],hW',trodAll_mk1 (shut_bool Tryz.underlying4 true),trodAll_mk1 (Below.trod Tryz.laidOut (by kernel_rfl) (of_decide_eq_true (by kernel_rfl)) k0 hB (by obtain ⟨n,hn⟩:=k0; exact DataW.trod_lt n _ _ _ hn)),rfl,hB.frame _,fun h=>by cases h⟩
theorem zcU {a b:Bool} (h1:a=true) (h2:b=true):(a && b)=true:=by rw [h1,h2]; rfl
theorem zuS:laidOutB Tryz.prog=true:=Tryz.laidOut
theorem zuR:mapsRowed Tryz.prog=true:=by kernel_rfl
theorem zuQ:(Tryz.prog.stops == [])=true:=by kernel_rfl
theorem zuP:(Tryz.prog.stopKnobs == [])=true:=by kernel_rfl
theorem zra:(Rows.rowVersionsRow.inPlace == Tryz.prog.inPlace 7)=true:=by kernel_rfl
theorem zq9:(Rows.rowVersionsRow.unfollowed == Tryz.prog.unfollowed 7)=true:=by kernel_rfl
theorem zq8:(Rows.rowVersionsRow.recurses == Tryz.prog.recurses 7)=true:=by kernel_rfl
theorem zq7:(Rows.rowVersionsRow.named == Tryz.prog.varsNamed 7)=true:=by kernel_rfl
theorem zq6:(Rows.rowVersionsRow.plainKeys == Tryz.prog.plainKeys)=true:=by kernel_rfl
theorem zq5:Tryz.prog.stopsHeard=true:=by kernel_rfl
theorem zq4:Tryz.prog.mayEnter=true:=by kernel_rfl
theorem zq3:(Rows.rowVersionsRow.lifted == Tryz.prog.liftsFinal)=true:=by kernel_rfl
theorem zq2:(Tryz.prog.make == some Rows.rowVersionsRow.make)=true:=by kernel_rfl
theorem zxn:joinedFacts Tryz.pinned.checked.prog 7 Tryz.f7 Rows.rowVersionsSpec Rows.rowVersionsRow=true:=by
 unfold joinedFacts
 exact zcU (zcU (zcU (zcU (zcU (zcU (zcU (zcU (zcU (zcU (zcU (zcU (zcU (zcU (zcU (zcU (zcU (zcU (zcU (zcU (zcU (zcU (zcU (zcU (zcU (zcU (zcU (zcU (zcU (zcU (zcU ((by kernel_rfl)) (zuS)) (zuR)) (by kernel_rfl)) (by kernel_rfl)) (by kernel_rfl)) (zuQ)) (by kernel_rfl)) (zuP)) (zra)) (zq9)) (zq8)) (zq7)) (by kernel_rfl)) (by kernel_rfl)) (by kernel_rfl)) (by kernel_rfl)) (by kernel_rfl)) (by kernel_rfl)) (by kernel_rfl)) (by kernel_rfl)) (by kernel_rfl)) (zq6)) (by kernel_rfl)) (zq5)) (zq4)) (zq3)) (zq2)) (by kernel_rfl)) (by kernel_rfl)) (by kernel_rfl)) (by kernel_rfl)
theorem versR_holds:Rows.RowVersionsSaid :=
 OpenClaim.holds_of_wide 7 Tryz.f7 Z Z Z Z Z Z Z ⟨Z,Z,Z,Z,Z⟩ Z Z Z Z Z (by kernel_rfl) Tryz.func7 zxn
  (of_decide_eq_true (by kernel_rfl)) (by unfold Func.isWrapper; rw [Zn (of_decide_eq_false (by kernel_rfl))]; exact ⟨Z,Z⟩)
  (fun os started H enc _=>versR_lifted os started H enc)
end Go.Proofs.YtabjfnfglcghfaaGreat
