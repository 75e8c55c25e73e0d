/-
  'tombololaw19.RowLocks' returns true for every input, and leaves its arguments as they were. No condition.
-/
import Derived.Test.YtabjfnfglcghfaaGreatRows
import Derived.Test.YtabjfnfglcghfaaGreatConC
set_option linter.unusedVariables false
set_option linter.unusedSimpArgs false
set_option maxRecDepth 100000
namespace Go.Proofs.YtabjfnfglcghfaaGreat
open Go.ChangeShapes Go.WideShapes Go.ChangeAt Go.RowKit Go.Joins Go.Eng Go.Tm
theorem Tryz.own:ownKnob Tryz.prog.godebug=none:=by kernel_rfl
theorem Tryz.laidOut:laidOutB Tryz.prog=true:=by kernel_rfl
section
variable {H:Type} {enc:TypeId×Value->H} {W:World} {base b0:Nat} {r:Reach} {spare:Nat->Bool} {held:Bool} {v:Value} {d:DataW H} {p:List MemPlace}
theorem zuX {t:TypeId} {ks:List CK} (hk:cks Tryz.prog 5 t=some ks) (hv:∃ cs,v=.agg cs) (h:DataW.Trod enc Tryz.prog W base spare held t v d p):∃ cs:List Value,v=.agg cs.toArray/\zfs enc Tryz.prog W base spare held cs ks:=by
 obtain ⟨cs,rfl⟩:=hv
 obtain ⟨fuel,hf⟩:=h
 exact ⟨cs.toList,by simp,zfv 5 t ks _ hk ⟨fuel,_,hf⟩⟩
theorem zrL (hv:Value.okWide Tryz.prog W r b0 44 v) (h:DataW.Trod enc Tryz.prog W base spare held 44 v d p) :
  ∃ (V S T:Int) (da:Option Addr) (bd offd dn dc:Nat) (fd:Nat->Int) (oa:Option Addr) (bo offo on oc:Nat) (fo:Nat->Op3),v=.agg #[.int .i64 V,.int .i64 S,.int .i64 T,.slice da dn dc,.slice oa on oc]/\(0<dn->da=some ⟨bd,offd,none⟩)/\zbh (AW W) encU 1 bd offd dn fd/\(∀ i,i<dn->0<=fd i/\fd i<18446744073709551616)/\(0<on->oa=some ⟨bo,offo,none⟩)/\zbh (AW W) ztz 3 bo offo on fo/\on<=oc:=by
 obtain ⟨cs,rfl,hf⟩:=zuX (ks:=[.i .i64,.i .i64,.i .i64,.s 29,.s 91]) (by kernel_rfl) (by obtain ⟨fs,hu⟩:=zl5 (P:=Tryz.prog) (t:=44) (by kernel_rfl); exact okWide_struct hu hv |>.imp fun _ h=>h.1) h
 obtain ⟨x0,x1,x2,x3,x4,rfl,h0,h1,h2,h3,h4⟩:=fits5 hf
 obtain ⟨V,rfl,_⟩:=h0
 obtain ⟨S,rfl,_⟩:=h1
 obtain ⟨T,rfl,_⟩:=h2
 obtain ⟨da,bd,offd,dn,dc,fd,rfl,hda,hAd,hfd⟩:=h3.row (en:=encU) (m:=1) (G:=fun z=>0<=z/\z<18446744073709551616) (by kernel_rfl) (by decide) (fun _=>rfl) fun cs h=>by
  obtain ⟨x,rfl,h9⟩:=fits1 (zfv 5 _ [.i .u64] cs (by kernel_rfl) h)
  obtain ⟨z,rfl,hw⟩:=h9
  have:=bounds_u64 hw; exact ⟨z,rfl,by omega⟩
 obtain ⟨oa,bo,offo,on,oc,fo,rfl,hoc,hoa,hAo,_⟩:=h4.rowC (en:=ztz) (m:=3) (G:=fun _=>True) (by kernel_rfl) (by decide) (fun _=>rfl) fun cs h=>by
  obtain ⟨x0,x1,x2,rfl,h0,h1,h2⟩:=fits3 (zfv 5 _ [.i .i64,.i .i64,.i .i64] cs (by kernel_rfl) h)
  obtain ⟨z0,rfl,_⟩:=h0
  obtain ⟨z1,rfl,_⟩:=h1
  obtain ⟨z2,rfl,_⟩:=h2
  exact ⟨⟨z0,z1,z2⟩,rfl,trivial⟩
 exact ⟨V,S,T,da,bd,offd,dn,dc,fd,oa,bo,offo,on,oc,fo,rfl,hda,hAd,hfd,hoa,hAo,hoc⟩
end
theorem locksR_lifted (os:Os) (started:os.Started) (H:Type) (enc:TypeId×Value->H) :
  ReturnsInHanded {} Tryz.checked os 6 .any (Rows.rowLocksSpec.pre6 enc Tryz.prog Tryz.f6 Rows.rowLocksRow.domain false) (Rows.rowLocksSpec.post enc Tryz.prog Tryz.f6 false true false false):=by
 refine returnsInHanded_of_change (C:=Tryz.checked) Tryz.own started (by kernel_rfl) Tryz.func6
  (ChangeSpec.witness6 (enc:=enc) (C:=Tryz.checked) false ⟨#[],#[.agg #[.int .i64 0,.int .i64 0,.int .i64 0,.slice none 0 0,.slice none 0 0]],[]⟩ 8 (by kernel_rfl) (by kernel_rfl) (by kernel_rfl) (by kernel_rfl)) ?_
 intro W base args ds gs before hval0 hW hcnd _
 have hval:∀ (j:Nat) t v,Tryz.f6.params[j]?=some t->args[j]?=some v->Value.okWide Tryz.prog W .any base t v:=hval0
 have hW':=hW
 obtain ⟨p,q,hA0,hV,rfl,hfz,hnd⟩:=hW
 have hA:DataW.TrodAll enc Tryz.prog W 0 (fun _=>true) true Tryz.f6.params.toList args.toList ds p:=hA0
 rw [Tryz.params6] at hA hval
 obtain ⟨v0,d0,rfl,rfl,h0⟩:=trodAll_one hA
 obtain ⟨rfl,rfl⟩:=trodVars_none hV
 have k0:=h0
 obtain ⟨V,S,T,da,bd,offd,dn,dc,fd,oa,bo,offo,on,oc,fo,rfl,hda,hAd,hfd,hoa,hAo,hoc⟩:=zrL (hval 0 44 _ rfl rfl) h0
 have hfn:FnD Tryz.prog 6 [.agg #[.int .i64 V,.int .i64 S,.int .i64 T,.slice da dn dc,.slice oa on oc]] [AW W] (.bool true) [AW W]:=by
  by_cases hok:(okL V S T/\V<=6/\S<=8/\dn<=60/\on<=24)
  ·obtain ⟨l,hl,rfl,rfl,rfl⟩:=zxp hok.1
   exact zu4 hl hda hAd hfd hoa hAo hoc hok
  ·exact FnD.frame1 (zu3 hok)
 refine (Fn.callsW hfn).mono fun e W' ⟨he,hB⟩=>?_
 subst he
 refine ⟨_,rfl,_,_,_,[],_,[],hW',trodAll_mk1 (shut_bool Tryz.underlying4 true),trodAll_mk1 (Below.trod Tryz.laidOut (by kernel_rfl) (of_decide_eq_true (by kernel_rfl)) k0 hB (by obtain ⟨n,hn⟩:=k0; exact DataW.trod_lt n _ _ _ hn)),rfl,hB.frame _,fun h=>by cases h⟩
theorem zcQ {a b:Bool} (h1:a=true) (h2:b=true):(a && b)=true:=by rw [h1,h2]; rfl
theorem zr8:laidOutB Tryz.prog=true:=Tryz.laidOut
theorem zr7:mapsRowed Tryz.prog=true:=by kernel_rfl
theorem zr6:(Tryz.prog.stops == [])=true:=by kernel_rfl
theorem zr5:(Tryz.prog.stopKnobs == [])=true:=by kernel_rfl
theorem zqo:(Rows.rowLocksRow.inPlace == Tryz.prog.inPlace 6)=true:=by kernel_rfl
theorem zqn:(Rows.rowLocksRow.unfollowed == Tryz.prog.unfollowed 6)=true:=by kernel_rfl
theorem zqm:(Rows.rowLocksRow.recurses == Tryz.prog.recurses 6)=true:=by kernel_rfl
theorem zql:(Rows.rowLocksRow.named == Tryz.prog.varsNamed 6)=true:=by kernel_rfl
theorem zqk:(Rows.rowLocksRow.plainKeys == Tryz.prog.plainKeys)=true:=by kernel_rfl
theorem zqj:Tryz.prog.stopsHeard=true:=by kernel_rfl
theorem zqi:Tryz.prog.mayEnter=true:=by kernel_rfl
theorem zqh:(Rows.rowLocksRow.lifted == Tryz.prog.liftsFinal)=true:=by kernel_rfl
theorem zqg:(Tryz.prog.make == some Rows.rowLocksRow.make)=true:=by kernel_rfl
theorem zu5:joinedFacts Tryz.pinned.checked.prog 6 Tryz.f6 Rows.rowLocksSpec Rows.rowLocksRow=true:=by
 unfold joinedFacts
 exact zcQ (zcQ (zcQ (zcQ (zcQ (zcQ (zcQ (zcQ (zcQ (zcQ (zcQ (zcQ (zcQ (zcQ (zcQ (zcQ (zcQ (zcQ (zcQ (zcQ (zcQ (zcQ (zcQ (zcQ (zcQ (zcQ (zcQ (zcQ (zcQ (zcQ (zcQ ((by kernel_rfl)) (zr8)) (zr7)) (by kernel_rfl)) (by kernel_rfl)) (by kernel_rfl)) (zr6)) (by kernel_rfl)) (zr5)) (zqo)) (zqn)) (zqm)) (zql)) (by kernel_rfl)) (by kernel_rfl)) (by kernel_rfl)) (by kernel_rfl)) (by kernel_rfl)) (by kernel_rfl)) (by kernel_rfl)) (by kernel_rfl)) (by kernel_rfl)) (zqk)) (by kernel_rfl)) (zqj)) (zqi)) (zqh)) (zqg)) (by kernel_rfl)) (by kernel_rfl)) (by kernel_rfl)) (by kernel_rfl)
theorem locksR_holds:Rows.RowLocksSaid :=
 OpenClaim.holds_of_wide 6 Tryz.f6 rfl rfl rfl rfl rfl rfl rfl ⟨rfl,rfl,rfl,rfl,rfl⟩ rfl rfl rfl rfl rfl (by kernel_rfl) Tryz.func6 zu5
  (of_decide_eq_true (by kernel_rfl)) (by unfold Func.isWrapper; rw [if_neg (of_decide_eq_false (by kernel_rfl))]; exact ⟨rfl,rfl⟩)
  (fun os started H enc _=>locksR_lifted os started H enc)
end Go.Proofs.YtabjfnfglcghfaaGreat
