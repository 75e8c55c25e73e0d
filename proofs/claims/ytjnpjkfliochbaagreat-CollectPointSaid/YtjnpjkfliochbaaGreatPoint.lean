/-
  'tombololaw17.CollectPoint' returns true for every input, and leaves its arguments as they were. No condition.
-/
import Derived.Test.YtjnpjkfliochbaaGreatRows
import Derived.Test.YtjnpjkfliochbaaGreatConD
set_option linter.unusedVariables false
set_option linter.unusedSimpArgs false
set_option maxRecDepth 100000
namespace Go.Proofs.YtjnpjkfliochbaaGreat
open Go.ChangeShapes Go.WideShapes Go.ChangeAt Go.RowKit Go.Joins Go.Eng Go.Tm
theorem Tryz.own:ownKnob Tryz.prog.godebug=none:=by kernel_rfl
theorem Tryz.laidOut:laidOutB Tryz.prog=true:=by kernel_rfl
section
variable {H:Type} {enc:TypeId×Value→H} {W:World} {base b0:Nat} {r:Reach} {spare:Nat→Bool} {held:Bool} {v:Value} {d:DataW H} {p:List MemPlace}
theorem zoU {t:TypeId} {ks:List CK} (hk:cks Tryz.prog 5 t=some ks) (hv:∃ cs,v=.agg cs) (h:DataW.Trod enc Tryz.prog W base spare held t v d p):∃ cs:List Value,v=.agg cs.toArray∧zei enc Tryz.prog W base spare held cs ks:=by
 obtain ⟨cs,rfl⟩:=hv
 obtain ⟨fuel,hf⟩:=h
 exact ⟨cs.toList,by simp,zdE 5 t ks _ hk ⟨fuel,_,hf⟩⟩
theorem zmO (hv:Value.okWide Tryz.prog W r b0 105 v) (h:DataW.Trod enc Tryz.prog W base spare held 105 v d p) :
  ∃ (V S T:Int) (da:Option Addr) (bd offd dn dc:Nat) (fd:Nat→Int) (oa:Option Addr) (bo offo on oc:Nat) (fo:Nat→Op4) (ua:Option Addr) (bu offu un uc:Nat) (fu:Nat→Op4),v=.agg #[.int .i64 V,.int .i64 S,.int .i64 T,.slice da dn dc,.slice oa on oc,.slice ua un uc]∧(0<dn→da=some ⟨bd,offd,none⟩)∧zbB (AW W) encU 1 bd offd dn fd∧(∀ i,i<dn→0≤fd i∧fd i<18446744073709551616)∧(0<on→oa=some ⟨bo,offo,none⟩)∧zbB (AW W) zjy 4 bo offo on fo∧on≤oc∧(0<un→ua=some ⟨bu,offu,none⟩)∧zbB (AW W) zjy 4 bu offu un fu∧un≤uc:=by
 obtain ⟨cs,rfl,hf⟩:=zoU (ks:=[.i .i64,.i .i64,.i .i64,.s 71,.s 111,.s 111]) (by kernel_rfl) (by obtain ⟨fs,hu⟩:=zi5 (P:=Tryz.prog) (t:=105) (by kernel_rfl); exact okWide_struct hu hv |>.imp fun _ h=>h.1) h
 obtain ⟨x0,x1,x2,x3,x4,x5,rfl,h0,h1,h2,h3,h4,h5⟩:=fits6 hf
 obtain ⟨V,rfl,_⟩:=h0
 obtain ⟨S,rfl,_⟩:=h1
 obtain ⟨T,rfl,_⟩:=h2
 obtain ⟨da,bd,offd,dn,dc,fd,rfl,hda,hAd,hfd⟩:=h3.row (en:=encU) (m:=1) (G:=fun z=>0≤z∧z<18446744073709551616) (by kernel_rfl) (by decide) (fun _=>rfl) fun cs h=>by
  obtain ⟨x,rfl,h9⟩:=fits1 (zdE 5 _ [.i .u64] cs (by kernel_rfl) h)
  obtain ⟨z,rfl,hw⟩:=h9
  have:=bounds_u64 hw; exact ⟨z,rfl,by omega⟩
 obtain ⟨oa,bo,offo,on,oc,fo,rfl,hoc,hoa,hAo,_⟩:=h4.rowC (en:=zjy) (m:=4) (G:=fun _=>True) (by kernel_rfl) (by decide) (fun _=>rfl) fun cs h=>by
  obtain ⟨x0,x1,x2,x3,rfl,h0,h1,h2,h3⟩:=zrW (zdE 5 _ [.i .i64,.i .i64,.i .i64,.i .i64] cs (by kernel_rfl) h)
  obtain ⟨z0,rfl,_⟩:=h0
  obtain ⟨z1,rfl,_⟩:=h1
  obtain ⟨z2,rfl,_⟩:=h2
  obtain ⟨z3,rfl,_⟩:=h3
  exact ⟨⟨z0,z1,z2,z3⟩,rfl,trivial⟩
 obtain ⟨ua,bu,offu,un,uc,fu,rfl,huc,hua,hAu,_⟩:=h5.rowC (en:=zjy) (m:=4) (G:=fun _=>True) (by kernel_rfl) (by decide) (fun _=>rfl) fun cs h=>by
  obtain ⟨x0,x1,x2,x3,rfl,h0,h1,h2,h3⟩:=zrW (zdE 5 _ [.i .i64,.i .i64,.i .i64,.i .i64] cs (by kernel_rfl) h)
  obtain ⟨z0,rfl,_⟩:=h0
  obtain ⟨z1,rfl,_⟩:=h1
  obtain ⟨z2,rfl,_⟩:=h2
  obtain ⟨z3,rfl,_⟩:=h3
  exact ⟨⟨z0,z1,z2,z3⟩,rfl,trivial⟩
 exact ⟨V,S,T,da,bd,offd,dn,dc,fd,oa,bo,offo,on,oc,fo,ua,bu,offu,un,uc,fu,rfl,hda,hAd,hfd,hoa,hAo,hoc,hua,hAu,huc⟩
theorem zkT (hv:Value.okWide Tryz.prog W r b0 3 v):∃ x:Int,v=.int .i64 x:=okWide_int Tryz.underlying3 hv
end
theorem point17_lifted (os:Os) (started:os.Started) (H:Type) (enc:TypeId×Value→H) :
  ReturnsInHanded {} Tryz.checked os 12 .any (Rows.collectPointSpec.pre6 enc Tryz.prog Tryz.f12 Rows.collectPointRow.domain false) (Rows.collectPointSpec.post enc Tryz.prog Tryz.f12 false true false false):=by
 refine returnsInHanded_of_change (C:=Tryz.checked) Tryz.own started (by kernel_rfl) Tryz.func12
  (ChangeSpec.witness6 (enc:=enc) (C:=Tryz.checked) false ⟨#[],#[.agg #[.int .i64 0,.int .i64 0,.int .i64 0,.slice none 0 0,.slice none 0 0,.slice none 0 0],.int .i64 0,.int .i64 0],[]⟩ 8 (by kernel_rfl) (by kernel_rfl) (by kernel_rfl) (by kernel_rfl)) ?_
 intro W base args ds gs before hval0 hW hcnd _
 have hval:∀ (j:Nat) t v,Tryz.f12.params[j]?=some t→args[j]?=some v→Value.okWide Tryz.prog W .any base t v:=hval0
 have hW':=hW
 obtain ⟨p,q,hA0,hV,rfl,hfz,hnd⟩:=hW
 have hA:DataW.TrodAll enc Tryz.prog W 0 (fun _=>true) true Tryz.f12.params.toList args.toList ds p:=hA0
 rw [Tryz.params12] at hA hval
 obtain ⟨v0,v1,v2,d0,d1,d2,p0,p1,p2,rfl,rfl,rfl,h0,h1,h2⟩:=trodAll_three hA
 obtain ⟨rfl,rfl⟩:=trodVars_none hV
 have k0:=h0
 have k1:=h1
 have k2:=h2
 obtain ⟨V,S,T,da,bd,offd,dn,dc,fd,oa,bo,offo,on,oc,fo,ua,bu,offu,un,uc,fu,rfl,hda,hAd,hfd,hoa,hAo,hoc,hua,hAu,huc⟩:=zmO (hval 0 105 _ rfl rfl) h0
 obtain ⟨i1,rfl⟩:=zkT (hval 1 3 _ rfl rfl)
 obtain ⟨i2,rfl⟩:=zkT (hval 2 3 _ rfl rfl)
 have hfn:FnD Tryz.prog 12 [.agg #[.int .i64 V,.int .i64 S,.int .i64 T,.slice da dn dc,.slice oa on oc,.slice ua un uc],.int .i64 i1,.int .i64 i2] [AW W] (.bool true) [AW W]:=by
  by_cases hok:(okL V S T∧V≤8∧S≤12∧dn≤60∧on≤40∧un≤12)
  ·obtain ⟨l,hl,rfl,rfl,rfl⟩:=zqt hok.1
   exact zmK hl hda hAd hfd hoa hAo hoc hua hAu huc hok
  ·exact FnD.frame1 (zmJ hok)
 refine (Fn.callsW hfn).mono fun e W' ⟨he,hB⟩=>?_
 subst he
 refine ⟨_,rfl,_,_,_,[],_,[],hW',trodAll_mk1 (shut_bool Tryz.underlying4 true),trodAll_mk3 (Below.trod Tryz.laidOut (by kernel_rfl) (of_decide_eq_true (by kernel_rfl)) k0 hB (by obtain ⟨n,hn⟩:=k0; exact DataW.trod_lt n _ _ _ hn)) (Below.trod Tryz.laidOut (by kernel_rfl) (of_decide_eq_true (by kernel_rfl)) k1 hB (by obtain ⟨n,hn⟩:=k1; exact DataW.trod_lt n _ _ _ hn)) (Below.trod Tryz.laidOut (by kernel_rfl) (of_decide_eq_true (by kernel_rfl)) k2 hB (by obtain ⟨n,hn⟩:=k2; exact DataW.trod_lt n _ _ _ hn)),rfl,hB.frame _,fun h=>by cases h⟩
theorem point17_holds:Rows.CollectPointSaid :=
 OpenClaim.holds_of_wide 12 Tryz.f12 rfl rfl rfl rfl rfl rfl rfl ⟨rfl,rfl,rfl,rfl,rfl⟩ rfl rfl rfl rfl rfl (by kernel_rfl) Tryz.func12 (by kernel_rfl)
  (of_decide_eq_true (by kernel_rfl)) (by unfold Func.isWrapper; rw [if_neg (of_decide_eq_false (by kernel_rfl))]; exact ⟨rfl,rfl⟩)
  (fun os started H enc _=>point17_lifted os started H enc)
end Go.Proofs.YtjnpjkfliochbaaGreat
